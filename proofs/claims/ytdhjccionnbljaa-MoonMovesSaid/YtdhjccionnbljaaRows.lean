/-
  No cell of these rows narrows 'for every input' (looked for: loops, veiled, ifaces, maps, wideKeys, modest, calm, conditions, laid).
  DERIVED. THE GIVEN ROWS OF THIS SEAT. 10 by the template 'for every input the law returns true; each argument reads behind the call as it read before'; 0 by the template 'total and deterministic' (their statements: YtdhjccionnbljaaTotals.lean).
  GIVEN WITH THE SEED: the statements are not yours to turn. If you find one false, say at which input.
  Laid BY PROGRAM, IN A SANDBOX (cutbox-rows.mjs): the forced cells as the released guide's own fill.sh prints them over the translation 1d8856d2e3f78381… (all of the seat's roots in one cut). By AI agents, Wed Nov 11 2026. No macro, syntax, notation, axiom, sorry.
-/
import Derived.Test.YtdhjccionnbljaaChecked
import GoSem.Claim
import GoSem.ClaimJoined
import GoSem.ClaimMapViews
import Derived.JoinedTies
import Derived.KernelRfl
namespace Go.Proofs.Ytdhjccionnbljaa
/- THE CELL 'sum', in the pinned program and in every row, IS THE sha256 OF THE DUMP (.gsa) THAT YtdhjccionnbljaaProg.lean LOADS. Nothing in Lean hashes anything: it is a label: what it is worth is what the hold of that sum in a sandbox is worth. -/
noncomputable def Try.pinned : Pinned := { name := "ytdhjccionnbljaa", sum := "1d8856d2e3f783810c4fc6ffc71e1a95d9cc0faba843fa7df0ee18784e394882", checked := Try.checked }
namespace Rows
def none {H : Type} : Left H := { results := [], args := [] }

/-- 'gasolierlaw02.MoonSince': WHATEVER THE INPUT: true; the input reads as it did. -/
def moonSinceSpec : ChangeSpec := { name := "moonSince", fn := fun _ => fun
  | [d1, d2] => { results := [.lit (.bool true)], args := [d1, d2] }
  | _ => none }
def moonSinceRow : OpenClaim := { program := "ytdhjccionnbljaa", sum := "1d8856d2e3f783810c4fc6ffc71e1a95d9cc0faba843fa7df0ee18784e394882", func := "gasolier/gasolierlaw02.MoonSince", spec := "moonSince", unfollowed := true, recurses := true, apart := false }
def MoonSinceSaid : Prop := moonSinceRow.holds Try.pinned (OpenSpec.ofChange moonSinceSpec)

/-- ITS FALSE NEIGHBOUR: 'it returns false'. Refute it at one input. -/
def moonSinceWrong : ChangeSpec := { name := "moonSince", fn := fun _ => fun
  | [d1, d2] => { results := [.lit (.bool false)], args := [d1, d2] }
  | _ => none }
def MoonSinceWrongFalsely : Prop := moonSinceRow.holds Try.pinned (OpenSpec.ofChange moonSinceWrong)

/-- 'gasolierlaw02.MoonLower': WHATEVER THE INPUT: true; the input reads as it did. -/
def moonLowerSpec : ChangeSpec := { name := "moonLower", fn := fun _ => fun
  | [d1, d2, d3] => { results := [.lit (.bool true)], args := [d1, d2, d3] }
  | _ => none }
def moonLowerRow : OpenClaim := { program := "ytdhjccionnbljaa", sum := "1d8856d2e3f783810c4fc6ffc71e1a95d9cc0faba843fa7df0ee18784e394882", func := "gasolier/gasolierlaw02.MoonLower", spec := "moonLower", unfollowed := true, recurses := true, apart := false }
def MoonLowerSaid : Prop := moonLowerRow.holds Try.pinned (OpenSpec.ofChange moonLowerSpec)

/-- ITS FALSE NEIGHBOUR: 'it returns false'. Refute it at one input. -/
def moonLowerWrong : ChangeSpec := { name := "moonLower", fn := fun _ => fun
  | [d1, d2, d3] => { results := [.lit (.bool false)], args := [d1, d2, d3] }
  | _ => none }
def MoonLowerWrongFalsely : Prop := moonLowerRow.holds Try.pinned (OpenSpec.ofChange moonLowerWrong)

/-- 'gasolierlaw02.MoonFracs': WHATEVER THE INPUT: true; the input reads as it did. -/
def moonFracsSpec : ChangeSpec := { name := "moonFracs", fn := fun _ => fun
  | [d1, d2, d3] => { results := [.lit (.bool true)], args := [d1, d2, d3] }
  | _ => none }
def moonFracsRow : OpenClaim := { program := "ytdhjccionnbljaa", sum := "1d8856d2e3f783810c4fc6ffc71e1a95d9cc0faba843fa7df0ee18784e394882", func := "gasolier/gasolierlaw02.MoonFracs", spec := "moonFracs", unfollowed := true, recurses := true, apart := false }
def MoonFracsSaid : Prop := moonFracsRow.holds Try.pinned (OpenSpec.ofChange moonFracsSpec)

/-- ITS FALSE NEIGHBOUR: 'it returns false'. Refute it at one input. -/
def moonFracsWrong : ChangeSpec := { name := "moonFracs", fn := fun _ => fun
  | [d1, d2, d3] => { results := [.lit (.bool false)], args := [d1, d2, d3] }
  | _ => none }
def MoonFracsWrongFalsely : Prop := moonFracsRow.holds Try.pinned (OpenSpec.ofChange moonFracsWrong)

/-- 'gasolierlaw02.MoonTrue': WHATEVER THE INPUT: true; the input reads as it did. -/
def moonTrueSpec : ChangeSpec := { name := "moonTrue", fn := fun _ => fun
  | [d1, d2, d3] => { results := [.lit (.bool true)], args := [d1, d2, d3] }
  | _ => none }
def moonTrueRow : OpenClaim := { program := "ytdhjccionnbljaa", sum := "1d8856d2e3f783810c4fc6ffc71e1a95d9cc0faba843fa7df0ee18784e394882", func := "gasolier/gasolierlaw02.MoonTrue", spec := "moonTrue", unfollowed := true, recurses := true, apart := false }
def MoonTrueSaid : Prop := moonTrueRow.holds Try.pinned (OpenSpec.ofChange moonTrueSpec)

/-- ITS FALSE NEIGHBOUR: 'it returns false'. Refute it at one input. -/
def moonTrueWrong : ChangeSpec := { name := "moonTrue", fn := fun _ => fun
  | [d1, d2, d3] => { results := [.lit (.bool false)], args := [d1, d2, d3] }
  | _ => none }
def MoonTrueWrongFalsely : Prop := moonTrueRow.holds Try.pinned (OpenSpec.ofChange moonTrueWrong)

/-- 'gasolierlaw02.MoonPlaces': WHATEVER THE INPUT: true; the input reads as it did. -/
def moonPlacesSpec : ChangeSpec := { name := "moonPlaces", fn := fun _ => fun
  | [d1, d2, d3] => { results := [.lit (.bool true)], args := [d1, d2, d3] }
  | _ => none }
def moonPlacesRow : OpenClaim := { program := "ytdhjccionnbljaa", sum := "1d8856d2e3f783810c4fc6ffc71e1a95d9cc0faba843fa7df0ee18784e394882", func := "gasolier/gasolierlaw02.MoonPlaces", spec := "moonPlaces", unfollowed := true, recurses := true, apart := false }
def MoonPlacesSaid : Prop := moonPlacesRow.holds Try.pinned (OpenSpec.ofChange moonPlacesSpec)

/-- ITS FALSE NEIGHBOUR: 'it returns false'. Refute it at one input. -/
def moonPlacesWrong : ChangeSpec := { name := "moonPlaces", fn := fun _ => fun
  | [d1, d2, d3] => { results := [.lit (.bool false)], args := [d1, d2, d3] }
  | _ => none }
def MoonPlacesWrongFalsely : Prop := moonPlacesRow.holds Try.pinned (OpenSpec.ofChange moonPlacesWrong)

/-- 'gasolierlaw02.MoonAnswers': WHATEVER THE INPUT: true; the input reads as it did. -/
def moonAnswersSpec : ChangeSpec := { name := "moonAnswers", fn := fun _ => fun
  | [d1, d2] => { results := [.lit (.bool true)], args := [d1, d2] }
  | _ => none }
def moonAnswersRow : OpenClaim := { program := "ytdhjccionnbljaa", sum := "1d8856d2e3f783810c4fc6ffc71e1a95d9cc0faba843fa7df0ee18784e394882", func := "gasolier/gasolierlaw02.MoonAnswers", spec := "moonAnswers", unfollowed := true, recurses := true, apart := false }
def MoonAnswersSaid : Prop := moonAnswersRow.holds Try.pinned (OpenSpec.ofChange moonAnswersSpec)

/-- ITS FALSE NEIGHBOUR: 'it returns false'. Refute it at one input. -/
def moonAnswersWrong : ChangeSpec := { name := "moonAnswers", fn := fun _ => fun
  | [d1, d2] => { results := [.lit (.bool false)], args := [d1, d2] }
  | _ => none }
def MoonAnswersWrongFalsely : Prop := moonAnswersRow.holds Try.pinned (OpenSpec.ofChange moonAnswersWrong)

/-- 'gasolierlaw02.MoonMoves': WHATEVER THE INPUT: true; the input reads as it did. -/
def moonMovesSpec : ChangeSpec := { name := "moonMoves", fn := fun _ => fun
  | [d1, d2, d3] => { results := [.lit (.bool true)], args := [d1, d2, d3] }
  | _ => none }
def moonMovesRow : OpenClaim := { program := "ytdhjccionnbljaa", sum := "1d8856d2e3f783810c4fc6ffc71e1a95d9cc0faba843fa7df0ee18784e394882", func := "gasolier/gasolierlaw02.MoonMoves", spec := "moonMoves", unfollowed := true, recurses := true, apart := false }
def MoonMovesSaid : Prop := moonMovesRow.holds Try.pinned (OpenSpec.ofChange moonMovesSpec)

/-- ITS FALSE NEIGHBOUR: 'it returns false'. Refute it at one input. -/
def moonMovesWrong : ChangeSpec := { name := "moonMoves", fn := fun _ => fun
  | [d1, d2, d3] => { results := [.lit (.bool false)], args := [d1, d2, d3] }
  | _ => none }
def MoonMovesWrongFalsely : Prop := moonMovesRow.holds Try.pinned (OpenSpec.ofChange moonMovesWrong)

/-- 'gasolierlaw02.MoonShown': WHATEVER THE INPUT: true; the input reads as it did. -/
def moonShownSpec : ChangeSpec := { name := "moonShown", fn := fun _ => fun
  | [d1, d2] => { results := [.lit (.bool true)], args := [d1, d2] }
  | _ => none }
def moonShownRow : OpenClaim := { program := "ytdhjccionnbljaa", sum := "1d8856d2e3f783810c4fc6ffc71e1a95d9cc0faba843fa7df0ee18784e394882", func := "gasolier/gasolierlaw02.MoonShown", spec := "moonShown", unfollowed := true, recurses := true, apart := false }
def MoonShownSaid : Prop := moonShownRow.holds Try.pinned (OpenSpec.ofChange moonShownSpec)

/-- ITS FALSE NEIGHBOUR: 'it returns false'. Refute it at one input. -/
def moonShownWrong : ChangeSpec := { name := "moonShown", fn := fun _ => fun
  | [d1, d2] => { results := [.lit (.bool false)], args := [d1, d2] }
  | _ => none }
def MoonShownWrongFalsely : Prop := moonShownRow.holds Try.pinned (OpenSpec.ofChange moonShownWrong)

/-- 'gasolierlaw02.MoonTwo': WHATEVER THE INPUT: true; the input reads as it did. -/
def moonTwoSpec : ChangeSpec := { name := "moonTwo", fn := fun _ => fun
  | [d1, d2, d3] => { results := [.lit (.bool true)], args := [d1, d2, d3] }
  | _ => none }
def moonTwoRow : OpenClaim := { program := "ytdhjccionnbljaa", sum := "1d8856d2e3f783810c4fc6ffc71e1a95d9cc0faba843fa7df0ee18784e394882", func := "gasolier/gasolierlaw02.MoonTwo", spec := "moonTwo", unfollowed := true, recurses := true, apart := false }
def MoonTwoSaid : Prop := moonTwoRow.holds Try.pinned (OpenSpec.ofChange moonTwoSpec)

/-- ITS FALSE NEIGHBOUR: 'it returns false'. Refute it at one input. -/
def moonTwoWrong : ChangeSpec := { name := "moonTwo", fn := fun _ => fun
  | [d1, d2, d3] => { results := [.lit (.bool false)], args := [d1, d2, d3] }
  | _ => none }
def MoonTwoWrongFalsely : Prop := moonTwoRow.holds Try.pinned (OpenSpec.ofChange moonTwoWrong)

/-- 'gasolierlaw02.MoonBetween': WHATEVER THE INPUT: true; the input reads as it did. -/
def moonBetweenSpec : ChangeSpec := { name := "moonBetween", fn := fun _ => fun
  | [d1, d2] => { results := [.lit (.bool true)], args := [d1, d2] }
  | _ => none }
def moonBetweenRow : OpenClaim := { program := "ytdhjccionnbljaa", sum := "1d8856d2e3f783810c4fc6ffc71e1a95d9cc0faba843fa7df0ee18784e394882", func := "gasolier/gasolierlaw02.MoonBetween", spec := "moonBetween", unfollowed := true, recurses := true, apart := false }
def MoonBetweenSaid : Prop := moonBetweenRow.holds Try.pinned (OpenSpec.ofChange moonBetweenSpec)

/-- ITS FALSE NEIGHBOUR: 'it returns false'. Refute it at one input. -/
def moonBetweenWrong : ChangeSpec := { name := "moonBetween", fn := fun _ => fun
  | [d1, d2] => { results := [.lit (.bool false)], args := [d1, d2] }
  | _ => none }
def MoonBetweenWrongFalsely : Prop := moonBetweenRow.holds Try.pinned (OpenSpec.ofChange moonBetweenWrong)

/- THE SECOND FORM. 'bulk': how many values and letters a reading holds, each counted each time it is reached (what is shared counts as often as it is met; a slice's spare places count too). A statement '..UptoSaid' is the law's where the arguments, and the package variables that the reading takes, are together of bulk at most 1048576: NARROWER than '..Said'. Prove '..Said' where nothing that the law and all that it calls make is longer than what came in: it says more and counts as full. Else prove '..UptoSaid'. A law counts once. -/
mutual
def uptoBulk {H : Type} : DataW H → Nat
  | .lit (.string bytes) => bytes.length + 1
  | .lit _ => 1
  | .nil => 1
  | .ptr d => uptoBulk d + 1
  | .slice elems spare => uptoBulkAll elems + uptoBulkAll spare + 1
  | .agg parts => uptoBulkAll parts + 1
  | .iface _ d => uptoBulk d + 1
  | .map entries => uptoBulkEntries entries + 1
  | .held _ => 1
def uptoBulkAll {H : Type} : List (DataW H) → Nat
  | [] => 0
  | d :: r => uptoBulk d + uptoBulkAll r
def uptoBulkEntries {H : Type} : List (Lit × DataW H) → Nat
  | [] => 0
  | x :: r => uptoBulkEntry x + uptoBulkEntries r
def uptoBulkEntry {H : Type} : Lit × DataW H → Nat
  | (.string bytes, d) => bytes.length + uptoBulk d + 1
  | (_, d) => uptoBulk d + 1
 end
def uptoSmall : (H : Type) → List (DataW H) → Bool := fun _ ds => decide (uptoBulkAll ds ≤ 1048576)
def OpenSpec.upto (s : _root_.Go.ChangeSpec) : _root_.Go.OpenSpec := { _root_.Go.OpenSpec.ofChange s with cond := some uptoSmall }

/-- 'gasolierlaw02.MoonSince', WHERE WHAT IT READS IS OF BULK AT MOST 1048576: true; the input reads as it did. -/
def moonSinceUptoRow : OpenClaim := { program := "ytdhjccionnbljaa", sum := "1d8856d2e3f783810c4fc6ffc71e1a95d9cc0faba843fa7df0ee18784e394882", func := "gasolier/gasolierlaw02.MoonSince", spec := "moonSince", unfollowed := true, recurses := true, apart := false, narrowed := true }
def MoonSinceUptoSaid : Prop := moonSinceUptoRow.holds Try.pinned (OpenSpec.upto moonSinceSpec)

/-- 'gasolierlaw02.MoonLower', WHERE WHAT IT READS IS OF BULK AT MOST 1048576: true; the input reads as it did. -/
def moonLowerUptoRow : OpenClaim := { program := "ytdhjccionnbljaa", sum := "1d8856d2e3f783810c4fc6ffc71e1a95d9cc0faba843fa7df0ee18784e394882", func := "gasolier/gasolierlaw02.MoonLower", spec := "moonLower", unfollowed := true, recurses := true, apart := false, narrowed := true }
def MoonLowerUptoSaid : Prop := moonLowerUptoRow.holds Try.pinned (OpenSpec.upto moonLowerSpec)

/-- 'gasolierlaw02.MoonFracs', WHERE WHAT IT READS IS OF BULK AT MOST 1048576: true; the input reads as it did. -/
def moonFracsUptoRow : OpenClaim := { program := "ytdhjccionnbljaa", sum := "1d8856d2e3f783810c4fc6ffc71e1a95d9cc0faba843fa7df0ee18784e394882", func := "gasolier/gasolierlaw02.MoonFracs", spec := "moonFracs", unfollowed := true, recurses := true, apart := false, narrowed := true }
def MoonFracsUptoSaid : Prop := moonFracsUptoRow.holds Try.pinned (OpenSpec.upto moonFracsSpec)

/-- 'gasolierlaw02.MoonTrue', WHERE WHAT IT READS IS OF BULK AT MOST 1048576: true; the input reads as it did. -/
def moonTrueUptoRow : OpenClaim := { program := "ytdhjccionnbljaa", sum := "1d8856d2e3f783810c4fc6ffc71e1a95d9cc0faba843fa7df0ee18784e394882", func := "gasolier/gasolierlaw02.MoonTrue", spec := "moonTrue", unfollowed := true, recurses := true, apart := false, narrowed := true }
def MoonTrueUptoSaid : Prop := moonTrueUptoRow.holds Try.pinned (OpenSpec.upto moonTrueSpec)

/-- 'gasolierlaw02.MoonPlaces', WHERE WHAT IT READS IS OF BULK AT MOST 1048576: true; the input reads as it did. -/
def moonPlacesUptoRow : OpenClaim := { program := "ytdhjccionnbljaa", sum := "1d8856d2e3f783810c4fc6ffc71e1a95d9cc0faba843fa7df0ee18784e394882", func := "gasolier/gasolierlaw02.MoonPlaces", spec := "moonPlaces", unfollowed := true, recurses := true, apart := false, narrowed := true }
def MoonPlacesUptoSaid : Prop := moonPlacesUptoRow.holds Try.pinned (OpenSpec.upto moonPlacesSpec)

/-- 'gasolierlaw02.MoonAnswers', WHERE WHAT IT READS IS OF BULK AT MOST 1048576: true; the input reads as it did. -/
def moonAnswersUptoRow : OpenClaim := { program := "ytdhjccionnbljaa", sum := "1d8856d2e3f783810c4fc6ffc71e1a95d9cc0faba843fa7df0ee18784e394882", func := "gasolier/gasolierlaw02.MoonAnswers", spec := "moonAnswers", unfollowed := true, recurses := true, apart := false, narrowed := true }
def MoonAnswersUptoSaid : Prop := moonAnswersUptoRow.holds Try.pinned (OpenSpec.upto moonAnswersSpec)

/-- 'gasolierlaw02.MoonMoves', WHERE WHAT IT READS IS OF BULK AT MOST 1048576: true; the input reads as it did. -/
def moonMovesUptoRow : OpenClaim := { program := "ytdhjccionnbljaa", sum := "1d8856d2e3f783810c4fc6ffc71e1a95d9cc0faba843fa7df0ee18784e394882", func := "gasolier/gasolierlaw02.MoonMoves", spec := "moonMoves", unfollowed := true, recurses := true, apart := false, narrowed := true }
def MoonMovesUptoSaid : Prop := moonMovesUptoRow.holds Try.pinned (OpenSpec.upto moonMovesSpec)

/-- 'gasolierlaw02.MoonShown', WHERE WHAT IT READS IS OF BULK AT MOST 1048576: true; the input reads as it did. -/
def moonShownUptoRow : OpenClaim := { program := "ytdhjccionnbljaa", sum := "1d8856d2e3f783810c4fc6ffc71e1a95d9cc0faba843fa7df0ee18784e394882", func := "gasolier/gasolierlaw02.MoonShown", spec := "moonShown", unfollowed := true, recurses := true, apart := false, narrowed := true }
def MoonShownUptoSaid : Prop := moonShownUptoRow.holds Try.pinned (OpenSpec.upto moonShownSpec)

/-- 'gasolierlaw02.MoonTwo', WHERE WHAT IT READS IS OF BULK AT MOST 1048576: true; the input reads as it did. -/
def moonTwoUptoRow : OpenClaim := { program := "ytdhjccionnbljaa", sum := "1d8856d2e3f783810c4fc6ffc71e1a95d9cc0faba843fa7df0ee18784e394882", func := "gasolier/gasolierlaw02.MoonTwo", spec := "moonTwo", unfollowed := true, recurses := true, apart := false, narrowed := true }
def MoonTwoUptoSaid : Prop := moonTwoUptoRow.holds Try.pinned (OpenSpec.upto moonTwoSpec)

/-- 'gasolierlaw02.MoonBetween', WHERE WHAT IT READS IS OF BULK AT MOST 1048576: true; the input reads as it did. -/
def moonBetweenUptoRow : OpenClaim := { program := "ytdhjccionnbljaa", sum := "1d8856d2e3f783810c4fc6ffc71e1a95d9cc0faba843fa7df0ee18784e394882", func := "gasolier/gasolierlaw02.MoonBetween", spec := "moonBetween", unfollowed := true, recurses := true, apart := false, narrowed := true }
def MoonBetweenUptoSaid : Prop := moonBetweenUptoRow.holds Try.pinned (OpenSpec.upto moonBetweenSpec)

end Rows
end Go.Proofs.Ytdhjccionnbljaa
