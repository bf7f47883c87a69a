/- DepotFalls: for every input the statement's call returns true; the arguments read behind it as they did. Condition: what is read is of bulk at most 1048576. -/
import Derived.Test.YtggdlgclohnbaaaGreatDoorN1
import Derived.Test.YtggdlgclohnbaaaGreatDoorRows
import Derived.Test.YtggdlgclohnbaaaGreatDoorTie
import Derived.Test.YtggdlgclohnbaaaGreatDoorCards
import Derived.SevenTiedAt
import Derived.LaidLaws
import Derived.Lay
import Derived.LaidOnce
import Derived.MakeChecks
import Derived.Deep.DeepHandedRow
import Derived.OpenShut
import Derived.Test.YtggdlgclohnbaaaGreatDoorKDepotFalls
namespace Go.Proofs.YtggdlgclohnbaaaGreatDoor
open Go Go.RowKit Go.Sx Go.ChangeShapes

theorem ownDepotFalls : ownKnob Tryz.prog.godebug = none := by kernel_rfl
theorem laidDepotFalls : laidOutB Tryz.prog = true := by kernel_rfl
theorem law_DepotFalls (x : m7 × (List Int) × Unit) (h : m7.G x.1 ∧ (x.2.1.length * 8 ≤ reachBytes ∧ x.2.1.length ≤ maxLen ∧ ∀ y : Int, y ∈ x.2.1 → InK .i64 y) ∧ True) (hb : x.1.Thread.length + x.1.Loose.length ≤ 1048576) : o8 Tryz.prog 3 [.agg (m7.c x.1), lD 1 x.2.1 cI] (fun y => y = .v (.bool true)) := by
  obtain ⟨h0, h1, _⟩ := h
  exact a8s (x.1) (x.2.1) true (b2q (x.1) (x.2.1) h0 h1 hb)
abbrev argsDepotFalls : Array Value := #[.agg #[.slice none 0 0, .slice none 0 0], .slice none 0 0]
noncomputable abbrev readDepotFalls (os : Os) {H : Type} (enc : TypeId × Value → H) := DataW.whole enc Tryz.prog ((World.laidAll Tryz.prog os Rows.depotFallsUptoRow.laid).forCall (fun _ _ => 0) ⟨#[], argsDepotFalls, []⟩).memory Tryz.f3.params.toList (Rows.OpenSpec.upto Rows.depotFallsSpec).vars false argsDepotFalls.toList 12
theorem someDepotFalls (os : Os) {H : Type} (enc : TypeId × Value → H) : (readDepotFalls os enc).isSome = true := by kernel_rfl
theorem witDepotFalls (os : Os) {H : Type} (enc : TypeId × Value → H) : ∃ x, readDepotFalls os enc = some x ∧ Rows.depotFallsUptoRow.domain.all (PathCond.test Tryz.prog ⟨Tryz.f3.params.toList, x.1, (Rows.OpenSpec.upto Rows.depotFallsSpec).bare.plain.varTypes Tryz.prog, x.2.1⟩) = true ∧ ∀ k, (Rows.OpenSpec.upto Rows.depotFallsSpec).cond = some k → k H (x.1 ++ x.2.1) = true :=
  ⟨(readDepotFalls os enc).get (someDepotFalls os enc), (Option.some_get (someDepotFalls os enc)).symm, by kernel_rfl, fun k hk => by cases hk; kernel_rfl⟩
set_option maxRecDepth 100000 in
theorem liftedDepotFalls (os : Os) (started : os.Started) (H : Type) (enc : TypeId × Value → H) (F : Stop.Interp) :
    ReturnsInHanded {} Tryz.checked os 3 .any ((Rows.OpenSpec.upto Rows.depotFallsSpec).preRow enc Tryz.prog Tryz.f3 Rows.depotFallsUptoRow.domain false Rows.depotFallsUptoRow.laid) (((Rows.OpenSpec.upto Rows.depotFallsSpec).at F).post enc Tryz.prog Tryz.f3 false true false false) := by
  obtain ⟨x, hx, hc, hk⟩ := witDepotFalls os enc
  refine returnsInHanded_of_row (C := Tryz.checked) (s := Rows.OpenSpec.upto Rows.depotFallsSpec) ownDepotFalls started (by kernel_rfl) Tryz.func3
    ⟨World.laidAll Tryz.prog os Rows.depotFallsUptoRow.laid, fun _ _ => 0, ⟨#[], argsDepotFalls, []⟩, World.laidAll_os _ _ _, World.shaped_of_ZipB (by kernel_rfl) (by kernel_rfl), rfl, (Input.okWide_of_okWideB (base := 0) (by kernel_rfl)).2,
      OpenSpec.preRow_of_cond 12 (x := x) hx hc hk (by kernel_rfl)
        (by rw [MakeChecks.laidMetH_plain _ _ _ (by kernel_rfl)]; exact laidMet_laidAll _ (by kernel_rfl) (by kernel_rfl)),
      by simp only [Assume.holds]; exact ⟨by simp, by simp, fun _ => Modest.zero, by simp, by simp⟩⟩ ?_
  intro W base args ds gs before hval hW _ hcond hwt hlaid _ _
  have hgs : gs = [] := by
    obtain ⟨p, q, hA, hV, _⟩ := hW
    rw [show (Rows.OpenSpec.upto Rows.depotFallsSpec).vars = [] from rfl] at hV
    cases gs with
    | nil => rfl
    | cons => simp [DataW.TrodVars] at hV
  subst hgs
  have hsm := hcond _ rfl
  exact b1Z (P := Tryz.prog) (ts := [24, 25]) (tb := 4) (J8.agg c7H (fun _ => rfl) (by rw [Tryz.underlying24]) (J8.one c6N (by rw [Tryz.underlying25]) J8.nil)) (fun x h hb => law_DepotFalls x h hb) (by rw [Tryz.params3]) laidDepotFalls (by kernel_rfl) rfl rfl Tryz.underlying4 (fun ds h => by
    match ds, h with
    | [_, _], _ => exact ⟨rfl, rfl, rfl⟩) hval hW hwt (c5f (Eq.mp (MakeChecks.laidMetH_plain Tryz.prog Rows.depotFallsUptoRow.laid W (by kernel_rfl)) hlaid)) (fun x ps hr ht => c0a x.1 hr ht hsm)
theorem depotFallsUpto_row : Rows.DepotFallsUptoSaid :=
  OpenClaim.holds_of_cond 3 Tryz.f3 rfl rfl rfl rfl rfl rfl rfl ⟨rfl, rfl, rfl, rfl, rfl⟩ rfl rfl rfl rfl rfl (by kernel_rfl) Tryz.func3 a9E
    (of_decide_eq_true (by kernel_rfl)) (by unfold Func.isWrapper; first | (rw [j0 (by decide +kernel)]; kernel_rfl) | (rw [j4 (by decide +kernel)]; exact ⟨rfl, rfl⟩))
    (fun os started H enc _ F => by rw [OpenClaim.pre_eq_preRow]; exact liftedDepotFalls os started H enc F)
theorem depotFallsUpto_proved : Rows.DepotFallsUptoCardSaid :=
  Claim7.holds_tied_plain_at .later [] [.data, .data, .data, .sentinel, .sentinel] true (true, "ed9049e8d4a612af79481b3bc7844afc04cee0ee2f0fe87f8b58560d4ff41fe9") true
    depotFallsUpto_row (fun _ h => by cases h) (by kernel_rfl) (fun _ h => by cases h) depotFallsUpto_row_tie rfl ⟨rfl, rfl⟩ (by kernel_rfl) rfl
    (fun f fn hf hfn => by
      obtain rfl : f = 3 := (N6 ((show Tryz.prog.funcNamed "gasolier/gasolierlaw08.DepotFalls" = some 3 by kernel_rfl).symm.trans hf)).symm
      obtain rfl : fn = Tryz.f3 := (N6 (Tryz.func3.symm.trans hfn)).symm
      exact ⟨by kernel_rfl, fun j t ht => by
        have hall : (Tryz.f3.params.toList.all fun t => !Tryz.prog.wantsStandIn t) = true := by kernel_rfl
        have h2 := L5.1 hall t (a9c (by simpa using ht))
        exact (show Tryz.prog.wantsStandIn t = false by simpa using h2)⟩)
    (by kernel_rfl)
end Go.Proofs.YtggdlgclohnbaaaGreatDoor
