/-
  DERIVED. GIVEN WITH THE SEED: THE CARDS: each row of YtlngjieodaocfaaGreatDoorRows.lean that lists a variable, with what it lists TIED to the program's text (the seventh form; the later family's looks); each row that meets fmt, with fmt's text TOLD by the authors' own Lean function (tested against real Go, not proved from fmt's source: count such statements apart). THE CARD IS WHAT COUNTS. Prove the row's statement (the work); the ties are given (YtlngjieodaocfaaGreatDoorTie.lean); close each card by the builder's one call (the guide's Derived/Test/ToyasCard.lean, 'card_holds'). Laid BY PROGRAM, IN A SANDBOX (cutbox-door.mjs). By AI agents, Wed Nov 11 2026. No macro, syntax, notation, axiom, sorry.
-/
import Derived.Test.YtlngjieodaocfaaGreatDoorRows
import GoSem.ClaimSeven
namespace Go.Proofs.YtlngjieodaocfaaGreatDoor
namespace Rows

/-- THE TIED CARD OF 'gasolierlaw09.MusterValid'. -/
def musterValidCard : Claim7 := { stood := { row := musterValidRow, standIns := [], harness := (true, "78a2d1c4c4f97bc1b1ddcfd8bd33cf3f8b515327a0c33cc12677f497080ed6d7"), looks := false }, kinds := [], alts := [], laidByText := true, laidKinds := [.data, .data, .data], laidTests := true, laidLooks := .later }
def MusterValidCardSaid : Prop := Claim7.holds Tryz.pinned (.plain (OpenSpec.ofChange musterValidSpec)) musterValidCard

/-- THE SECOND FORM's CARD OF 'gasolierlaw09.MusterValid'. -/
def musterValidUptoCard : Claim7 := { stood := { row := musterValidUptoRow, standIns := [], harness := (true, "78a2d1c4c4f97bc1b1ddcfd8bd33cf3f8b515327a0c33cc12677f497080ed6d7"), looks := false }, kinds := [], alts := [], laidByText := true, laidKinds := [.data, .data, .data], laidTests := true, laidLooks := .later }
def MusterValidUptoCardSaid : Prop := Claim7.holds Tryz.pinned (.plain (OpenSpec.upto musterValidSpec)) musterValidUptoCard
end Rows
end Go.Proofs.YtlngjieodaocfaaGreatDoor
