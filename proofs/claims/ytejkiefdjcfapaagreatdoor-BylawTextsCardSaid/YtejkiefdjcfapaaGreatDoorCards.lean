/-
  DERIVED. GIVEN WITH THE SEED: THE CARDS: each row of YtejkiefdjcfapaaGreatDoorRows.lean that lists a variable, with what it lists TIED to the program's text (the seventh form; the later family's looks); each row that meets fmt, with fmt's text TOLD by the authors' own Lean function (tested against real Go, not proved from fmt's source: count such statements apart). THE CARD IS WHAT COUNTS. Prove the row's statement (the work); the ties are given (YtejkiefdjcfapaaGreatDoorTie.lean); close each card by the builder's one call (the guide's Derived/Test/ToyasCard.lean, 'card_holds'). Laid BY PROGRAM, IN A SANDBOX (cutbox-door.mjs). By AI agents, Wed Nov 11 2026. No macro, syntax, notation, axiom, sorry.
-/
import Derived.Test.YtejkiefdjcfapaaGreatDoorRows
import GoSem.ClaimSeven
namespace Go.Proofs.YtejkiefdjcfapaaGreatDoor
namespace Rows

/-- THE TIED CARD OF 'gasolierlaw01.BylawTexts'. -/
def bylawTextsCard : Claim7 := { stood := { row := bylawTextsRow, standIns := [], harness := (true, "377a4e6bef21e62b9d1e953f62538827ada38b7b8f6fca9659336ec9aad10c76"), looks := true }, kinds := [], alts := [], laidByText := true, laidKinds := [.data, .data, .data, .data, .sentinel, .sentinel, .pinned], laidTests := true, laidLooks := .later }
def BylawTextsCardSaid : Prop := Claim7.holds Tryz.pinned (.plain (OpenSpec.ofChange bylawTextsSpec)) bylawTextsCard

/-- THE SECOND FORM's CARD OF 'gasolierlaw01.BylawTexts'. -/
def bylawTextsUptoCard : Claim7 := { stood := { row := bylawTextsUptoRow, standIns := [], harness := (true, "377a4e6bef21e62b9d1e953f62538827ada38b7b8f6fca9659336ec9aad10c76"), looks := true }, kinds := [], alts := [], laidByText := true, laidKinds := [.data, .data, .data, .data, .sentinel, .sentinel, .pinned], laidTests := true, laidLooks := .later }
def BylawTextsUptoCardSaid : Prop := Claim7.holds Tryz.pinned (.plain (OpenSpec.upto bylawTextsSpec)) bylawTextsUptoCard
end Rows
end Go.Proofs.YtejkiefdjcfapaaGreatDoor
