/-
  DERIVED. GIVEN WITH THE SEED: THE CARDS: each row of YtggdlgclohnbaaaGreatDoorRows.lean that lists a variable, with what it lists TIED to the program's text (the seventh form; the later family's looks); each row that meets fmt, with fmt's text TOLD by the authors' own Lean function (tested against real Go, not proved from fmt's source: count such statements apart). THE CARD IS WHAT COUNTS. Prove the row's statement (the work); the ties are given (YtggdlgclohnbaaaGreatDoorTie.lean); close each card by the builder's one call (the guide's Derived/Test/ToyasCard.lean, 'card_holds'). Laid BY PROGRAM, IN A SANDBOX (cutbox-door.mjs). By AI agents, Wed Nov 11 2026. No macro, syntax, notation, axiom, sorry.
-/
import Derived.Test.YtggdlgclohnbaaaGreatDoorRows
import GoSem.ClaimSeven
namespace Go.Proofs.YtggdlgclohnbaaaGreatDoor
namespace Rows

/-- THE TIED CARD OF 'gasolierlaw08.DepotFalls'. -/
def depotFallsCard : Claim7 := { stood := { row := depotFallsRow, standIns := [], harness := (true, "ed9049e8d4a612af79481b3bc7844afc04cee0ee2f0fe87f8b58560d4ff41fe9"), looks := true }, kinds := [], alts := [], laidByText := true, laidKinds := [.data, .data, .data, .sentinel, .sentinel], laidTests := true, laidLooks := .later }
def DepotFallsCardSaid : Prop := Claim7.holds Tryz.pinned (.plain (OpenSpec.ofChange depotFallsSpec)) depotFallsCard

/-- THE TIED CARD OF 'gasolierlaw08.DepotWrites'. -/
def depotWritesCard : Claim7 := { stood := { row := depotWritesRow, standIns := [], harness := (true, "ed9049e8d4a612af79481b3bc7844afc04cee0ee2f0fe87f8b58560d4ff41fe9"), looks := true }, kinds := [], alts := [], laidByText := true, laidKinds := [.data, .data, .data, .sentinel, .sentinel], laidTests := true, laidLooks := .later }
def DepotWritesCardSaid : Prop := Claim7.holds Tryz.pinned (.plain (OpenSpec.ofChange depotWritesSpec)) depotWritesCard

/-- THE TIED CARD OF 'gasolierlaw08.DepotFall'. -/
def depotFallCard : Claim7 := { stood := { row := depotFallRow, standIns := [], harness := (true, "ed9049e8d4a612af79481b3bc7844afc04cee0ee2f0fe87f8b58560d4ff41fe9"), looks := true }, kinds := [], alts := [], laidByText := true, laidKinds := [.data, .data, .data, .sentinel, .sentinel], laidTests := true, laidLooks := .later }
def DepotFallCardSaid : Prop := Claim7.holds Tryz.pinned (.plain (OpenSpec.ofChange depotFallSpec)) depotFallCard

/-- THE TIED CARD OF 'gasolierlaw08.DepotTexts'. -/
def depotTextsCard : Claim7 := { stood := { row := depotTextsRow, standIns := [], harness := (true, "ed9049e8d4a612af79481b3bc7844afc04cee0ee2f0fe87f8b58560d4ff41fe9"), looks := true }, kinds := [], alts := [], laidByText := true, laidKinds := [.data, .data, .data, .sentinel, .sentinel], laidTests := true, laidLooks := .later }
def DepotTextsCardSaid : Prop := Claim7.holds Tryz.pinned (.plain (OpenSpec.ofChange depotTextsSpec)) depotTextsCard

/-- THE TIED CARD OF 'gasolierlaw08.DepotCards'. -/
def depotCardsCard : Claim7 := { stood := { row := depotCardsRow, standIns := [], harness := (true, "ed9049e8d4a612af79481b3bc7844afc04cee0ee2f0fe87f8b58560d4ff41fe9"), looks := true }, kinds := [], alts := [], laidByText := true, laidKinds := [.data, .data, .data, .sentinel, .sentinel], laidTests := true, laidLooks := .later }
def DepotCardsCardSaid : Prop := Claim7.holds Tryz.pinned (.plain (OpenSpec.ofChange depotCardsSpec)) depotCardsCard

/-- THE TIED CARD OF 'gasolierlaw08.DepotJoins'. -/
def depotJoinsCard : Claim7 := { stood := { row := depotJoinsRow, standIns := [], harness := (true, "ed9049e8d4a612af79481b3bc7844afc04cee0ee2f0fe87f8b58560d4ff41fe9"), looks := true }, kinds := [], alts := [], laidByText := true, laidKinds := [.data, .data, .data, .sentinel, .sentinel], laidTests := true, laidLooks := .later }
def DepotJoinsCardSaid : Prop := Claim7.holds Tryz.pinned (.plain (OpenSpec.ofChange depotJoinsSpec)) depotJoinsCard

/-- THE TIED CARD OF 'gasolierlaw08.DepotSums'. -/
def depotSumsCard : Claim7 := { stood := { row := depotSumsRow, standIns := [], harness := (true, "ed9049e8d4a612af79481b3bc7844afc04cee0ee2f0fe87f8b58560d4ff41fe9"), looks := true }, kinds := [], alts := [], laidByText := true, laidKinds := [.data, .data, .data, .sentinel, .sentinel], laidTests := true, laidLooks := .later }
def DepotSumsCardSaid : Prop := Claim7.holds Tryz.pinned (.plain (OpenSpec.ofChange depotSumsSpec)) depotSumsCard

/-- THE TIED CARD OF 'gasolierlaw08.DepotBooks'. -/
def depotBooksCard : Claim7 := { stood := { row := depotBooksRow, standIns := [], harness := (true, "ed9049e8d4a612af79481b3bc7844afc04cee0ee2f0fe87f8b58560d4ff41fe9"), looks := true }, kinds := [], alts := [], laidByText := true, laidKinds := [.data, .data, .data, .sentinel, .sentinel], laidTests := true, laidLooks := .later }
def DepotBooksCardSaid : Prop := Claim7.holds Tryz.pinned (.plain (OpenSpec.ofChange depotBooksSpec)) depotBooksCard

/-- THE TIED CARD OF 'gasolierlaw08.DepotDepots'. -/
def depotDepotsCard : Claim7 := { stood := { row := depotDepotsRow, standIns := [], harness := (true, "ed9049e8d4a612af79481b3bc7844afc04cee0ee2f0fe87f8b58560d4ff41fe9"), looks := true }, kinds := [], alts := [], laidByText := true, laidKinds := [.data, .data, .data, .sentinel, .sentinel], laidTests := true, laidLooks := .later }
def DepotDepotsCardSaid : Prop := Claim7.holds Tryz.pinned (.plain (OpenSpec.ofChange depotDepotsSpec)) depotDepotsCard

/-- THE TIED CARD OF 'gasolierlaw08.DepotMessages'. -/
def depotMessagesCard : Claim7 := { stood := { row := depotMessagesRow, standIns := [], harness := (true, "ed9049e8d4a612af79481b3bc7844afc04cee0ee2f0fe87f8b58560d4ff41fe9"), looks := true }, kinds := [], alts := [], laidByText := true, laidKinds := [.data, .data, .data, .sentinel, .sentinel], laidTests := true, laidLooks := .later }
def DepotMessagesCardSaid : Prop := Claim7.holds Tryz.pinned (.plain (OpenSpec.ofChange depotMessagesSpec)) depotMessagesCard

/-- THE TIED CARD OF 'gasolierlaw08.DepotEqual'. -/
def depotEqualCard : Claim7 := { stood := { row := depotEqualRow, standIns := [], harness := (true, "ed9049e8d4a612af79481b3bc7844afc04cee0ee2f0fe87f8b58560d4ff41fe9"), looks := true }, kinds := [], alts := [], laidByText := true, laidKinds := [.data, .data, .data, .sentinel, .sentinel], laidTests := true, laidLooks := .later }
def DepotEqualCardSaid : Prop := Claim7.holds Tryz.pinned (.plain (OpenSpec.ofChange depotEqualSpec)) depotEqualCard

/-- THE SECOND FORM's CARD OF 'gasolierlaw08.DepotFalls'. -/
def depotFallsUptoCard : Claim7 := { stood := { row := depotFallsUptoRow, standIns := [], harness := (true, "ed9049e8d4a612af79481b3bc7844afc04cee0ee2f0fe87f8b58560d4ff41fe9"), looks := true }, kinds := [], alts := [], laidByText := true, laidKinds := [.data, .data, .data, .sentinel, .sentinel], laidTests := true, laidLooks := .later }
def DepotFallsUptoCardSaid : Prop := Claim7.holds Tryz.pinned (.plain (OpenSpec.upto depotFallsSpec)) depotFallsUptoCard

/-- THE SECOND FORM's CARD OF 'gasolierlaw08.DepotWrites'. -/
def depotWritesUptoCard : Claim7 := { stood := { row := depotWritesUptoRow, standIns := [], harness := (true, "ed9049e8d4a612af79481b3bc7844afc04cee0ee2f0fe87f8b58560d4ff41fe9"), looks := true }, kinds := [], alts := [], laidByText := true, laidKinds := [.data, .data, .data, .sentinel, .sentinel], laidTests := true, laidLooks := .later }
def DepotWritesUptoCardSaid : Prop := Claim7.holds Tryz.pinned (.plain (OpenSpec.upto depotWritesSpec)) depotWritesUptoCard

/-- THE SECOND FORM's CARD OF 'gasolierlaw08.DepotFall'. -/
def depotFallUptoCard : Claim7 := { stood := { row := depotFallUptoRow, standIns := [], harness := (true, "ed9049e8d4a612af79481b3bc7844afc04cee0ee2f0fe87f8b58560d4ff41fe9"), looks := true }, kinds := [], alts := [], laidByText := true, laidKinds := [.data, .data, .data, .sentinel, .sentinel], laidTests := true, laidLooks := .later }
def DepotFallUptoCardSaid : Prop := Claim7.holds Tryz.pinned (.plain (OpenSpec.upto depotFallSpec)) depotFallUptoCard

/-- THE SECOND FORM's CARD OF 'gasolierlaw08.DepotTexts'. -/
def depotTextsUptoCard : Claim7 := { stood := { row := depotTextsUptoRow, standIns := [], harness := (true, "ed9049e8d4a612af79481b3bc7844afc04cee0ee2f0fe87f8b58560d4ff41fe9"), looks := true }, kinds := [], alts := [], laidByText := true, laidKinds := [.data, .data, .data, .sentinel, .sentinel], laidTests := true, laidLooks := .later }
def DepotTextsUptoCardSaid : Prop := Claim7.holds Tryz.pinned (.plain (OpenSpec.upto depotTextsSpec)) depotTextsUptoCard

/-- THE SECOND FORM's CARD OF 'gasolierlaw08.DepotCards'. -/
def depotCardsUptoCard : Claim7 := { stood := { row := depotCardsUptoRow, standIns := [], harness := (true, "ed9049e8d4a612af79481b3bc7844afc04cee0ee2f0fe87f8b58560d4ff41fe9"), looks := true }, kinds := [], alts := [], laidByText := true, laidKinds := [.data, .data, .data, .sentinel, .sentinel], laidTests := true, laidLooks := .later }
def DepotCardsUptoCardSaid : Prop := Claim7.holds Tryz.pinned (.plain (OpenSpec.upto depotCardsSpec)) depotCardsUptoCard

/-- THE SECOND FORM's CARD OF 'gasolierlaw08.DepotJoins'. -/
def depotJoinsUptoCard : Claim7 := { stood := { row := depotJoinsUptoRow, standIns := [], harness := (true, "ed9049e8d4a612af79481b3bc7844afc04cee0ee2f0fe87f8b58560d4ff41fe9"), looks := true }, kinds := [], alts := [], laidByText := true, laidKinds := [.data, .data, .data, .sentinel, .sentinel], laidTests := true, laidLooks := .later }
def DepotJoinsUptoCardSaid : Prop := Claim7.holds Tryz.pinned (.plain (OpenSpec.upto depotJoinsSpec)) depotJoinsUptoCard

/-- THE SECOND FORM's CARD OF 'gasolierlaw08.DepotSums'. -/
def depotSumsUptoCard : Claim7 := { stood := { row := depotSumsUptoRow, standIns := [], harness := (true, "ed9049e8d4a612af79481b3bc7844afc04cee0ee2f0fe87f8b58560d4ff41fe9"), looks := true }, kinds := [], alts := [], laidByText := true, laidKinds := [.data, .data, .data, .sentinel, .sentinel], laidTests := true, laidLooks := .later }
def DepotSumsUptoCardSaid : Prop := Claim7.holds Tryz.pinned (.plain (OpenSpec.upto depotSumsSpec)) depotSumsUptoCard

/-- THE SECOND FORM's CARD OF 'gasolierlaw08.DepotBooks'. -/
def depotBooksUptoCard : Claim7 := { stood := { row := depotBooksUptoRow, standIns := [], harness := (true, "ed9049e8d4a612af79481b3bc7844afc04cee0ee2f0fe87f8b58560d4ff41fe9"), looks := true }, kinds := [], alts := [], laidByText := true, laidKinds := [.data, .data, .data, .sentinel, .sentinel], laidTests := true, laidLooks := .later }
def DepotBooksUptoCardSaid : Prop := Claim7.holds Tryz.pinned (.plain (OpenSpec.upto depotBooksSpec)) depotBooksUptoCard

/-- THE SECOND FORM's CARD OF 'gasolierlaw08.DepotDepots'. -/
def depotDepotsUptoCard : Claim7 := { stood := { row := depotDepotsUptoRow, standIns := [], harness := (true, "ed9049e8d4a612af79481b3bc7844afc04cee0ee2f0fe87f8b58560d4ff41fe9"), looks := true }, kinds := [], alts := [], laidByText := true, laidKinds := [.data, .data, .data, .sentinel, .sentinel], laidTests := true, laidLooks := .later }
def DepotDepotsUptoCardSaid : Prop := Claim7.holds Tryz.pinned (.plain (OpenSpec.upto depotDepotsSpec)) depotDepotsUptoCard

/-- THE SECOND FORM's CARD OF 'gasolierlaw08.DepotMessages'. -/
def depotMessagesUptoCard : Claim7 := { stood := { row := depotMessagesUptoRow, standIns := [], harness := (true, "ed9049e8d4a612af79481b3bc7844afc04cee0ee2f0fe87f8b58560d4ff41fe9"), looks := true }, kinds := [], alts := [], laidByText := true, laidKinds := [.data, .data, .data, .sentinel, .sentinel], laidTests := true, laidLooks := .later }
def DepotMessagesUptoCardSaid : Prop := Claim7.holds Tryz.pinned (.plain (OpenSpec.upto depotMessagesSpec)) depotMessagesUptoCard

/-- THE SECOND FORM's CARD OF 'gasolierlaw08.DepotEqual'. -/
def depotEqualUptoCard : Claim7 := { stood := { row := depotEqualUptoRow, standIns := [], harness := (true, "ed9049e8d4a612af79481b3bc7844afc04cee0ee2f0fe87f8b58560d4ff41fe9"), looks := true }, kinds := [], alts := [], laidByText := true, laidKinds := [.data, .data, .data, .sentinel, .sentinel], laidTests := true, laidLooks := .later }
def DepotEqualUptoCardSaid : Prop := Claim7.holds Tryz.pinned (.plain (OpenSpec.upto depotEqualSpec)) depotEqualUptoCard
end Rows
end Go.Proofs.YtggdlgclohnbaaaGreatDoor
