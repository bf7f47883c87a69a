/-
  No cell of these rows narrows 'for every input' (looked for: loops, veiled, ifaces, maps, wideKeys, modest, calm, conditions, laid).
  DERIVED. THE GIVEN ROWS OF THIS SEAT. 9 by the template 'for every input the law returns true; each argument reads behind the call as it read before'; 0 by the template 'total and deterministic' (their statements: YtmkkedbfjpkgkaaTotals.lean).
  GIVEN WITH THE SEED: the statements are not yours to turn. If you find one false, say at which input.
  Laid BY PROGRAM, IN A SANDBOX (cutbox-rows.mjs): the forced cells as the released guide's own fill.sh prints them over the translation 5140191c378b3b95… (all of the seat's roots in one cut). By AI agents, Wed Nov 11 2026. No macro, syntax, notation, axiom, sorry.
-/
import Derived.Test.YtmkkedbfjpkgkaaChecked
import GoSem.Claim
import GoSem.ClaimJoined
import GoSem.ClaimMapViews
import Derived.JoinedTies
import Derived.KernelRfl
namespace Go.Proofs.Ytmkkedbfjpkgkaa
/- THE CELL 'sum', in the pinned program and in every row, IS THE sha256 OF THE DUMP (.gsa) THAT YtmkkedbfjpkgkaaProg.lean LOADS. Nothing in Lean hashes anything: it is a label: what it is worth is what the hold of that sum in a sandbox is worth. -/
noncomputable def Try.pinned : Pinned := { name := "ytmkkedbfjpkgkaa", sum := "5140191c378b3b95916859e3392838e980a943f1b3bcb5fe868ace081bca9ace", checked := Try.checked }
namespace Rows
def none {H : Type} : Left H := { results := [], args := [] }

/-- 'gasolierlaw01.BylawNarrow': WHATEVER THE INPUT: true; the input reads as it did. -/
def bylawNarrowSpec : ChangeSpec := { name := "bylawNarrow", fn := fun _ => fun
  | [d1, d2, d3] => { results := [.lit (.bool true)], args := [d1, d2, d3] }
  | _ => none }
def bylawNarrowRow : OpenClaim := { program := "ytmkkedbfjpkgkaa", sum := "5140191c378b3b95916859e3392838e980a943f1b3bcb5fe868ace081bca9ace", func := "gasolier/gasolierlaw01.BylawNarrow", spec := "bylawNarrow", unfollowed := true, recurses := true, apart := false }
def BylawNarrowSaid : Prop := bylawNarrowRow.holds Try.pinned (OpenSpec.ofChange bylawNarrowSpec)

/-- ITS FALSE NEIGHBOUR: 'it returns false'. Refute it at one input. -/
def bylawNarrowWrong : ChangeSpec := { name := "bylawNarrow", fn := fun _ => fun
  | [d1, d2, d3] => { results := [.lit (.bool false)], args := [d1, d2, d3] }
  | _ => none }
def BylawNarrowWrongFalsely : Prop := bylawNarrowRow.holds Try.pinned (OpenSpec.ofChange bylawNarrowWrong)

/-- 'gasolierlaw01.BylawMoves': WHATEVER THE INPUT: true; the input reads as it did. -/
def bylawMovesSpec : ChangeSpec := { name := "bylawMoves", fn := fun _ => fun
  | [d1, d2, d3] => { results := [.lit (.bool true)], args := [d1, d2, d3] }
  | _ => none }
def bylawMovesRow : OpenClaim := { program := "ytmkkedbfjpkgkaa", sum := "5140191c378b3b95916859e3392838e980a943f1b3bcb5fe868ace081bca9ace", func := "gasolier/gasolierlaw01.BylawMoves", spec := "bylawMoves", unfollowed := true, recurses := true, apart := false }
def BylawMovesSaid : Prop := bylawMovesRow.holds Try.pinned (OpenSpec.ofChange bylawMovesSpec)

/-- ITS FALSE NEIGHBOUR: 'it returns false'. Refute it at one input. -/
def bylawMovesWrong : ChangeSpec := { name := "bylawMoves", fn := fun _ => fun
  | [d1, d2, d3] => { results := [.lit (.bool false)], args := [d1, d2, d3] }
  | _ => none }
def BylawMovesWrongFalsely : Prop := bylawMovesRow.holds Try.pinned (OpenSpec.ofChange bylawMovesWrong)

/-- 'gasolierlaw01.BylawDuties': WHATEVER THE INPUT: true; the input reads as it did. -/
def bylawDutiesSpec : ChangeSpec := { name := "bylawDuties", fn := fun _ => fun
  | [d1, d2, d3] => { results := [.lit (.bool true)], args := [d1, d2, d3] }
  | _ => none }
def bylawDutiesRow : OpenClaim := { program := "ytmkkedbfjpkgkaa", sum := "5140191c378b3b95916859e3392838e980a943f1b3bcb5fe868ace081bca9ace", func := "gasolier/gasolierlaw01.BylawDuties", spec := "bylawDuties", unfollowed := true, recurses := true, apart := false }
def BylawDutiesSaid : Prop := bylawDutiesRow.holds Try.pinned (OpenSpec.ofChange bylawDutiesSpec)

/-- ITS FALSE NEIGHBOUR: 'it returns false'. Refute it at one input. -/
def bylawDutiesWrong : ChangeSpec := { name := "bylawDuties", fn := fun _ => fun
  | [d1, d2, d3] => { results := [.lit (.bool false)], args := [d1, d2, d3] }
  | _ => none }
def BylawDutiesWrongFalsely : Prop := bylawDutiesRow.holds Try.pinned (OpenSpec.ofChange bylawDutiesWrong)

/-- 'gasolierlaw01.BylawKept': WHATEVER THE INPUT: true; the input reads as it did. -/
def bylawKeptSpec : ChangeSpec := { name := "bylawKept", fn := fun _ => fun
  | [d1, d2, d3] => { results := [.lit (.bool true)], args := [d1, d2, d3] }
  | _ => none }
def bylawKeptRow : OpenClaim := { program := "ytmkkedbfjpkgkaa", sum := "5140191c378b3b95916859e3392838e980a943f1b3bcb5fe868ace081bca9ace", func := "gasolier/gasolierlaw01.BylawKept", spec := "bylawKept", unfollowed := true, recurses := true, apart := false }
def BylawKeptSaid : Prop := bylawKeptRow.holds Try.pinned (OpenSpec.ofChange bylawKeptSpec)

/-- ITS FALSE NEIGHBOUR: 'it returns false'. Refute it at one input. -/
def bylawKeptWrong : ChangeSpec := { name := "bylawKept", fn := fun _ => fun
  | [d1, d2, d3] => { results := [.lit (.bool false)], args := [d1, d2, d3] }
  | _ => none }
def BylawKeptWrongFalsely : Prop := bylawKeptRow.holds Try.pinned (OpenSpec.ofChange bylawKeptWrong)

/-- 'gasolierlaw01.BylawWindows': WHATEVER THE INPUT: true; the input reads as it did. -/
def bylawWindowsSpec : ChangeSpec := { name := "bylawWindows", fn := fun _ => fun
  | [d1, d2, d3] => { results := [.lit (.bool true)], args := [d1, d2, d3] }
  | _ => none }
def bylawWindowsRow : OpenClaim := { program := "ytmkkedbfjpkgkaa", sum := "5140191c378b3b95916859e3392838e980a943f1b3bcb5fe868ace081bca9ace", func := "gasolier/gasolierlaw01.BylawWindows", spec := "bylawWindows", unfollowed := true, recurses := true, apart := false }
def BylawWindowsSaid : Prop := bylawWindowsRow.holds Try.pinned (OpenSpec.ofChange bylawWindowsSpec)

/-- ITS FALSE NEIGHBOUR: 'it returns false'. Refute it at one input. -/
def bylawWindowsWrong : ChangeSpec := { name := "bylawWindows", fn := fun _ => fun
  | [d1, d2, d3] => { results := [.lit (.bool false)], args := [d1, d2, d3] }
  | _ => none }
def BylawWindowsWrongFalsely : Prop := bylawWindowsRow.holds Try.pinned (OpenSpec.ofChange bylawWindowsWrong)

/-- 'gasolierlaw01.BylawAnswers': WHATEVER THE INPUT: true; the input reads as it did. -/
def bylawAnswersSpec : ChangeSpec := { name := "bylawAnswers", fn := fun _ => fun
  | [d1, d2, d3] => { results := [.lit (.bool true)], args := [d1, d2, d3] }
  | _ => none }
def bylawAnswersRow : OpenClaim := { program := "ytmkkedbfjpkgkaa", sum := "5140191c378b3b95916859e3392838e980a943f1b3bcb5fe868ace081bca9ace", func := "gasolier/gasolierlaw01.BylawAnswers", spec := "bylawAnswers", unfollowed := true, recurses := true, apart := false }
def BylawAnswersSaid : Prop := bylawAnswersRow.holds Try.pinned (OpenSpec.ofChange bylawAnswersSpec)

/-- ITS FALSE NEIGHBOUR: 'it returns false'. Refute it at one input. -/
def bylawAnswersWrong : ChangeSpec := { name := "bylawAnswers", fn := fun _ => fun
  | [d1, d2, d3] => { results := [.lit (.bool false)], args := [d1, d2, d3] }
  | _ => none }
def BylawAnswersWrongFalsely : Prop := bylawAnswersRow.holds Try.pinned (OpenSpec.ofChange bylawAnswersWrong)

/-- 'gasolierlaw01.BylawChecks': WHATEVER THE INPUT: true; the input reads as it did. -/
def bylawChecksSpec : ChangeSpec := { name := "bylawChecks", fn := fun _ => fun
  | [d1, d2] => { results := [.lit (.bool true)], args := [d1, d2] }
  | _ => none }
def bylawChecksRow : OpenClaim := { program := "ytmkkedbfjpkgkaa", sum := "5140191c378b3b95916859e3392838e980a943f1b3bcb5fe868ace081bca9ace", func := "gasolier/gasolierlaw01.BylawChecks", spec := "bylawChecks", inPlace := ["slices.overlaps[gasolier/api.Version]"], unfollowed := true, recurses := true, apart := false }
def BylawChecksSaid : Prop := bylawChecksRow.holds Try.pinned (OpenSpec.ofChange bylawChecksSpec)

/-- ITS FALSE NEIGHBOUR: 'it returns false'. Refute it at one input. -/
def bylawChecksWrong : ChangeSpec := { name := "bylawChecks", fn := fun _ => fun
  | [d1, d2] => { results := [.lit (.bool false)], args := [d1, d2] }
  | _ => none }
def BylawChecksWrongFalsely : Prop := bylawChecksRow.holds Try.pinned (OpenSpec.ofChange bylawChecksWrong)

/-- 'gasolierlaw01.BylawJoins': WHATEVER THE INPUT: true; the input reads as it did. -/
def bylawJoinsSpec : ChangeSpec := { name := "bylawJoins", fn := fun _ => fun
  | [d1, d2, d3] => { results := [.lit (.bool true)], args := [d1, d2, d3] }
  | _ => none }
def bylawJoinsRow : OpenClaim := { program := "ytmkkedbfjpkgkaa", sum := "5140191c378b3b95916859e3392838e980a943f1b3bcb5fe868ace081bca9ace", func := "gasolier/gasolierlaw01.BylawJoins", spec := "bylawJoins", inPlace := ["slices.overlaps[gasolier/api.Version]"], unfollowed := true, recurses := true, apart := false }
def BylawJoinsSaid : Prop := bylawJoinsRow.holds Try.pinned (OpenSpec.ofChange bylawJoinsSpec)

/-- ITS FALSE NEIGHBOUR: 'it returns false'. Refute it at one input. -/
def bylawJoinsWrong : ChangeSpec := { name := "bylawJoins", fn := fun _ => fun
  | [d1, d2, d3] => { results := [.lit (.bool false)], args := [d1, d2, d3] }
  | _ => none }
def BylawJoinsWrongFalsely : Prop := bylawJoinsRow.holds Try.pinned (OpenSpec.ofChange bylawJoinsWrong)

/-- 'gasolierlaw01.BylawKnown': WHATEVER THE INPUT: true; the input reads as it did. -/
def bylawKnownSpec : ChangeSpec := { name := "bylawKnown", fn := fun _ => fun
  | [d1, d2, d3] => { results := [.lit (.bool true)], args := [d1, d2, d3] }
  | _ => none }
def bylawKnownRow : OpenClaim := { program := "ytmkkedbfjpkgkaa", sum := "5140191c378b3b95916859e3392838e980a943f1b3bcb5fe868ace081bca9ace", func := "gasolier/gasolierlaw01.BylawKnown", spec := "bylawKnown", unfollowed := true, recurses := true, apart := false }
def BylawKnownSaid : Prop := bylawKnownRow.holds Try.pinned (OpenSpec.ofChange bylawKnownSpec)

/-- ITS FALSE NEIGHBOUR: 'it returns false'. Refute it at one input. -/
def bylawKnownWrong : ChangeSpec := { name := "bylawKnown", fn := fun _ => fun
  | [d1, d2, d3] => { results := [.lit (.bool false)], args := [d1, d2, d3] }
  | _ => none }
def BylawKnownWrongFalsely : Prop := bylawKnownRow.holds Try.pinned (OpenSpec.ofChange bylawKnownWrong)

/- THE SECOND FORM. 'bulk': how many values and letters a reading holds, each counted each time it is reached (what is shared counts as often as it is met; a slice's spare places count too). A statement '..UptoSaid' is the law's where the arguments, and the package variables that the reading takes, are together of bulk at most 1048576: NARROWER than '..Said'. Prove '..Said' where nothing that the law and all that it calls make is longer than what came in: it says more and counts as full. Else prove '..UptoSaid'. A law counts once. -/
mutual
def uptoBulk {H : Type} : DataW H → Nat
  | .lit (.string bytes) => bytes.length + 1
  | .lit _ => 1
  | .nil => 1
  | .ptr d => uptoBulk d + 1
  | .slice elems spare => uptoBulkAll elems + uptoBulkAll spare + 1
  | .agg parts => uptoBulkAll parts + 1
  | .iface _ d => uptoBulk d + 1
  | .map entries => uptoBulkEntries entries + 1
  | .held _ => 1
def uptoBulkAll {H : Type} : List (DataW H) → Nat
  | [] => 0
  | d :: r => uptoBulk d + uptoBulkAll r
def uptoBulkEntries {H : Type} : List (Lit × DataW H) → Nat
  | [] => 0
  | x :: r => uptoBulkEntry x + uptoBulkEntries r
def uptoBulkEntry {H : Type} : Lit × DataW H → Nat
  | (.string bytes, d) => bytes.length + uptoBulk d + 1
  | (_, d) => uptoBulk d + 1
 end
def uptoSmall : (H : Type) → List (DataW H) → Bool := fun _ ds => decide (uptoBulkAll ds ≤ 1048576)
def OpenSpec.upto (s : _root_.Go.ChangeSpec) : _root_.Go.OpenSpec := { _root_.Go.OpenSpec.ofChange s with cond := some uptoSmall }

/-- 'gasolierlaw01.BylawNarrow', WHERE WHAT IT READS IS OF BULK AT MOST 1048576: true; the input reads as it did. -/
def bylawNarrowUptoRow : OpenClaim := { program := "ytmkkedbfjpkgkaa", sum := "5140191c378b3b95916859e3392838e980a943f1b3bcb5fe868ace081bca9ace", func := "gasolier/gasolierlaw01.BylawNarrow", spec := "bylawNarrow", unfollowed := true, recurses := true, apart := false, narrowed := true }
def BylawNarrowUptoSaid : Prop := bylawNarrowUptoRow.holds Try.pinned (OpenSpec.upto bylawNarrowSpec)

/-- 'gasolierlaw01.BylawMoves', WHERE WHAT IT READS IS OF BULK AT MOST 1048576: true; the input reads as it did. -/
def bylawMovesUptoRow : OpenClaim := { program := "ytmkkedbfjpkgkaa", sum := "5140191c378b3b95916859e3392838e980a943f1b3bcb5fe868ace081bca9ace", func := "gasolier/gasolierlaw01.BylawMoves", spec := "bylawMoves", unfollowed := true, recurses := true, apart := false, narrowed := true }
def BylawMovesUptoSaid : Prop := bylawMovesUptoRow.holds Try.pinned (OpenSpec.upto bylawMovesSpec)

/-- 'gasolierlaw01.BylawDuties', WHERE WHAT IT READS IS OF BULK AT MOST 1048576: true; the input reads as it did. -/
def bylawDutiesUptoRow : OpenClaim := { program := "ytmkkedbfjpkgkaa", sum := "5140191c378b3b95916859e3392838e980a943f1b3bcb5fe868ace081bca9ace", func := "gasolier/gasolierlaw01.BylawDuties", spec := "bylawDuties", unfollowed := true, recurses := true, apart := false, narrowed := true }
def BylawDutiesUptoSaid : Prop := bylawDutiesUptoRow.holds Try.pinned (OpenSpec.upto bylawDutiesSpec)

/-- 'gasolierlaw01.BylawKept', WHERE WHAT IT READS IS OF BULK AT MOST 1048576: true; the input reads as it did. -/
def bylawKeptUptoRow : OpenClaim := { program := "ytmkkedbfjpkgkaa", sum := "5140191c378b3b95916859e3392838e980a943f1b3bcb5fe868ace081bca9ace", func := "gasolier/gasolierlaw01.BylawKept", spec := "bylawKept", unfollowed := true, recurses := true, apart := false, narrowed := true }
def BylawKeptUptoSaid : Prop := bylawKeptUptoRow.holds Try.pinned (OpenSpec.upto bylawKeptSpec)

/-- 'gasolierlaw01.BylawWindows', WHERE WHAT IT READS IS OF BULK AT MOST 1048576: true; the input reads as it did. -/
def bylawWindowsUptoRow : OpenClaim := { program := "ytmkkedbfjpkgkaa", sum := "5140191c378b3b95916859e3392838e980a943f1b3bcb5fe868ace081bca9ace", func := "gasolier/gasolierlaw01.BylawWindows", spec := "bylawWindows", unfollowed := true, recurses := true, apart := false, narrowed := true }
def BylawWindowsUptoSaid : Prop := bylawWindowsUptoRow.holds Try.pinned (OpenSpec.upto bylawWindowsSpec)

/-- 'gasolierlaw01.BylawAnswers', WHERE WHAT IT READS IS OF BULK AT MOST 1048576: true; the input reads as it did. -/
def bylawAnswersUptoRow : OpenClaim := { program := "ytmkkedbfjpkgkaa", sum := "5140191c378b3b95916859e3392838e980a943f1b3bcb5fe868ace081bca9ace", func := "gasolier/gasolierlaw01.BylawAnswers", spec := "bylawAnswers", unfollowed := true, recurses := true, apart := false, narrowed := true }
def BylawAnswersUptoSaid : Prop := bylawAnswersUptoRow.holds Try.pinned (OpenSpec.upto bylawAnswersSpec)

/-- 'gasolierlaw01.BylawChecks', WHERE WHAT IT READS IS OF BULK AT MOST 1048576: true; the input reads as it did. -/
def bylawChecksUptoRow : OpenClaim := { program := "ytmkkedbfjpkgkaa", sum := "5140191c378b3b95916859e3392838e980a943f1b3bcb5fe868ace081bca9ace", func := "gasolier/gasolierlaw01.BylawChecks", spec := "bylawChecks", inPlace := ["slices.overlaps[gasolier/api.Version]"], unfollowed := true, recurses := true, apart := false, narrowed := true }
def BylawChecksUptoSaid : Prop := bylawChecksUptoRow.holds Try.pinned (OpenSpec.upto bylawChecksSpec)

/-- 'gasolierlaw01.BylawJoins', WHERE WHAT IT READS IS OF BULK AT MOST 1048576: true; the input reads as it did. -/
def bylawJoinsUptoRow : OpenClaim := { program := "ytmkkedbfjpkgkaa", sum := "5140191c378b3b95916859e3392838e980a943f1b3bcb5fe868ace081bca9ace", func := "gasolier/gasolierlaw01.BylawJoins", spec := "bylawJoins", inPlace := ["slices.overlaps[gasolier/api.Version]"], unfollowed := true, recurses := true, apart := false, narrowed := true }
def BylawJoinsUptoSaid : Prop := bylawJoinsUptoRow.holds Try.pinned (OpenSpec.upto bylawJoinsSpec)

/-- 'gasolierlaw01.BylawKnown', WHERE WHAT IT READS IS OF BULK AT MOST 1048576: true; the input reads as it did. -/
def bylawKnownUptoRow : OpenClaim := { program := "ytmkkedbfjpkgkaa", sum := "5140191c378b3b95916859e3392838e980a943f1b3bcb5fe868ace081bca9ace", func := "gasolier/gasolierlaw01.BylawKnown", spec := "bylawKnown", unfollowed := true, recurses := true, apart := false, narrowed := true }
def BylawKnownUptoSaid : Prop := bylawKnownUptoRow.holds Try.pinned (OpenSpec.upto bylawKnownSpec)

end Rows
end Go.Proofs.Ytmkkedbfjpkgkaa
