/- DepotWrites: for every input the statement's call returns true; the arguments read behind it as they did. Condition: what is read is of bulk at most 1048576. -/
import Derived.Test.YtggdlgclohnbaaaGreatDoorN1
import Derived.Test.YtggdlgclohnbaaaGreatDoorRows
import Derived.Test.YtggdlgclohnbaaaGreatDoorTie
import Derived.Test.YtggdlgclohnbaaaGreatDoorCards
import Derived.SevenTiedAt
import Derived.LaidLaws
import Derived.Lay
import Derived.LaidOnce
import Derived.MakeChecks
import Derived.Deep.DeepHandedRow
import Derived.OpenShut
import Derived.Test.YtggdlgclohnbaaaGreatDoorKDepotWrites
namespace Go.Proofs.YtggdlgclohnbaaaGreatDoor
open Go Go.RowKit Go.Sx Go.ChangeShapes

theorem ownDepotWrites : ownKnob Tryz.prog.godebug = none := by kernel_rfl
theorem laidDepotWrites : laidOutB Tryz.prog = true := by kernel_rfl
theorem law_DepotWrites (x : l7 × (List b9) × b9 × Unit) (h : l7.G x.1 ∧ (x.2.1.length * 72 ≤ reachBytes ∧ x.2.1.length ≤ maxLen ∧ ∀ y : b9, y ∈ x.2.1 → b9.G y) ∧ b9.G x.2.2.1 ∧ True) (hb : x.1.Thread.length + x.1.Loose.length ≤ 1048576) : q8 Tryz.prog 4 [.agg (l7.c x.1), lD 8 x.2.1 b9.c, .agg (b9.c x.2.2.1)] (fun y => y = .v (.bool true)) := by
  obtain ⟨h0, h1, h2, _⟩ := h
  exact a7E (x.1) (x.2.1) (x.2.2.1) true (pl_DepotWrites (x.1) (x.2.1) (x.2.2.1) h0 h1 h2 hb)
abbrev argsDepotWrites : Array Value := #[.agg #[.slice none 0 0, .slice none 0 0], .slice none 0 0, .agg #[.int .i64 0, .int .i64 0, .int .i64 0, .int .i64 0, .int .i64 0, .int .i64 0, .int .i64 0, .string ByteArray.empty]]
noncomputable abbrev readDepotWrites (os : Os) {H : Type} (enc : TypeId × Value → H) := DataW.whole enc Tryz.prog ((World.laidAll Tryz.prog os Rows.depotWritesUptoRow.laid).forCall (fun _ _ => 0) ⟨#[], argsDepotWrites, []⟩).memory Tryz.f4.params.toList (Rows.OpenSpec.upto Rows.depotWritesSpec).vars false argsDepotWrites.toList 12
theorem someDepotWrites (os : Os) {H : Type} (enc : TypeId × Value → H) : (readDepotWrites os enc).isSome = true := by kernel_rfl
theorem witDepotWrites (os : Os) {H : Type} (enc : TypeId × Value → H) : ∃ x, readDepotWrites os enc = some x ∧ Rows.depotWritesUptoRow.domain.all (PathCond.test Tryz.prog ⟨Tryz.f4.params.toList, x.1, (Rows.OpenSpec.upto Rows.depotWritesSpec).bare.plain.varTypes Tryz.prog, x.2.1⟩) = true ∧ ∀ k, (Rows.OpenSpec.upto Rows.depotWritesSpec).cond = some k → k H (x.1 ++ x.2.1) = true :=
  ⟨(readDepotWrites os enc).get (someDepotWrites os enc), (Option.some_get (someDepotWrites os enc)).symm, by kernel_rfl, fun k hk => by cases hk; kernel_rfl⟩
set_option maxRecDepth 100000 in
theorem liftedDepotWrites (os : Os) (started : os.Started) (H : Type) (enc : TypeId × Value → H) (F : Stop.Interp) :
    ReturnsInHanded {} Tryz.checked os 4 .any ((Rows.OpenSpec.upto Rows.depotWritesSpec).preRow enc Tryz.prog Tryz.f4 Rows.depotWritesUptoRow.domain false Rows.depotWritesUptoRow.laid) (((Rows.OpenSpec.upto Rows.depotWritesSpec).at F).post enc Tryz.prog Tryz.f4 false true false false) := by
  obtain ⟨x, hx, hc, hk⟩ := witDepotWrites os enc
  refine returnsInHanded_of_row (C := Tryz.checked) (s := Rows.OpenSpec.upto Rows.depotWritesSpec) ownDepotWrites started (by kernel_rfl) Tryz.func4
    ⟨World.laidAll Tryz.prog os Rows.depotWritesUptoRow.laid, fun _ _ => 0, ⟨#[], argsDepotWrites, []⟩, World.laidAll_os _ _ _, World.shaped_of_ZipB (by kernel_rfl) (by kernel_rfl), rfl, (Input.okWide_of_okWideB (base := 0) (by kernel_rfl)).2,
      OpenSpec.preRow_of_cond 12 (x := x) hx hc hk (by kernel_rfl)
        (by rw [MakeChecks.laidMetH_plain _ _ _ (by kernel_rfl)]; exact laidMet_laidAll _ (by kernel_rfl) (by kernel_rfl)),
      by simp only [Assume.holds]; exact ⟨by simp, by simp, fun _ => Modest.zero, by simp, by simp⟩⟩ ?_
  intro W base args ds gs before hval hW _ hcond hwt hlaid _ _
  have hgs : gs = [] := by
    obtain ⟨p, q, hA, hV, _⟩ := hW
    rw [show (Rows.OpenSpec.upto Rows.depotWritesSpec).vars = [] from rfl] at hV
    cases gs with
    | nil => rfl
    | cons => simp [DataW.TrodVars] at hV
  subst hgs
  have hsm := hcond _ rfl
  exact b2t (P := Tryz.prog) (ts := [24, 27, 38]) (tb := 4) (H8.agg c7h (fun _ => rfl) (by rw [Tryz.underlying24]) (H8.one c7W (by rw [Tryz.underlying27]) (H8.agg c5s (fun _ => rfl) (by rw [Tryz.underlying38]) H8.nil))) (fun x h hb => law_DepotWrites x h hb) (by rw [Tryz.params4]) laidDepotWrites (by kernel_rfl) rfl rfl Tryz.underlying4 (fun ds h => by
    match ds, h with
    | [_, _, _], _ => exact ⟨rfl, rfl, rfl⟩) hval hW hwt (c6j (Eq.mp (MakeChecks.laidMetH_plain Tryz.prog Rows.depotWritesUptoRow.laid W (by kernel_rfl)) hlaid)) (fun x ps hr ht => c1d x.1 hr ht hsm)
theorem depotWritesUpto_row : Rows.DepotWritesUptoSaid :=
  OpenClaim.holds_of_cond 4 Tryz.f4 rfl rfl rfl rfl rfl rfl rfl ⟨rfl, rfl, rfl, rfl, rfl⟩ rfl rfl rfl rfl rfl (by kernel_rfl) Tryz.func4 a8s
    (of_decide_eq_true (by kernel_rfl)) (by unfold Func.isWrapper; first | (rw [e9 (by decide +kernel)]; kernel_rfl) | (rw [i6 (by decide +kernel)]; exact ⟨rfl, rfl⟩))
    (fun os started H enc _ F => by rw [OpenClaim.pre_eq_preRow]; exact liftedDepotWrites os started H enc F)
theorem depotWritesUpto_proved : Rows.DepotWritesUptoCardSaid :=
  Claim7.holds_tied_plain_at .later [] [.data, .data, .data, .sentinel, .sentinel] true (true, "ed9049e8d4a612af79481b3bc7844afc04cee0ee2f0fe87f8b58560d4ff41fe9") true
    depotWritesUpto_row (fun _ h => by cases h) (by kernel_rfl) (fun _ h => by cases h) depotWritesUpto_row_tie rfl ⟨rfl, rfl⟩ (by kernel_rfl) rfl
    (fun f fn hf hfn => by
      obtain rfl : f = 4 := (D6 ((show Tryz.prog.funcNamed "gasolier/gasolierlaw08.DepotWrites" = some 4 by kernel_rfl).symm.trans hf)).symm
      obtain rfl : fn = Tryz.f4 := (D6 (Tryz.func4.symm.trans hfn)).symm
      exact ⟨by kernel_rfl, fun j t ht => by
        have hall : (Tryz.f4.params.toList.all fun t => !Tryz.prog.wantsStandIn t) = true := by kernel_rfl
        have h2 := L4.1 hall t (a7K (by simpa using ht))
        exact (show Tryz.prog.wantsStandIn t = false by simpa using h2)⟩)
    (by kernel_rfl)
end Go.Proofs.YtggdlgclohnbaaaGreatDoor
