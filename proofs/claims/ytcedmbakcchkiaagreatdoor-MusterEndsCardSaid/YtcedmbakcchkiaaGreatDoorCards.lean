/-
  DERIVED. GIVEN WITH THE SEED: THE CARDS: each row of YtcedmbakcchkiaaGreatDoorRows.lean that lists a variable, with what it lists TIED to the program's text (the seventh form; the later family's looks); each row that meets fmt, with fmt's text TOLD by the authors' own Lean function (tested against real Go, not proved from fmt's source: count such statements apart). THE CARD IS WHAT COUNTS. Prove the row's statement (the work); the ties are given (YtcedmbakcchkiaaGreatDoorTie.lean); close each card by the builder's one call (the guide's Derived/Test/ToyasCard.lean, 'card_holds'). Laid BY PROGRAM, IN A SANDBOX (cutbox-door.mjs). By AI agents, Wed Nov 11 2026. No macro, syntax, notation, axiom, sorry.
-/
import Derived.Test.YtcedmbakcchkiaaGreatDoorRows
import GoSem.ClaimSeven
namespace Go.Proofs.YtcedmbakcchkiaaGreatDoor
namespace Rows

/-- THE TIED CARD OF 'gasolierlaw09.MusterCalls'. -/
def musterCallsCard : Claim7 := { stood := { row := musterCallsRow, standIns := [], harness := (true, "ddc12b51475b83b79dc50a6a1a73d81463255e21f7e6add9724f72c147374224"), looks := false }, kinds := [], alts := [], laidByText := true, laidKinds := [.data, .data, .data], laidTests := true, laidLooks := .later }
def MusterCallsCardSaid : Prop := Claim7.holds Tryz.pinned (.plain (OpenSpec.ofChange musterCallsSpec)) musterCallsCard

/-- THE TIED CARD OF 'gasolierlaw09.MusterChecks'. -/
def musterChecksCard : Claim7 := { stood := { row := musterChecksRow, standIns := [], harness := (true, "ddc12b51475b83b79dc50a6a1a73d81463255e21f7e6add9724f72c147374224"), looks := false }, kinds := [], alts := [], laidByText := true, laidKinds := [.data, .data, .data], laidTests := true, laidLooks := .later }
def MusterChecksCardSaid : Prop := Claim7.holds Tryz.pinned (.plain (OpenSpec.ofChange musterChecksSpec)) musterChecksCard

/-- THE TIED CARD OF 'gasolierlaw09.MusterSteps'. -/
def musterStepsCard : Claim7 := { stood := { row := musterStepsRow, standIns := [], harness := (true, "ddc12b51475b83b79dc50a6a1a73d81463255e21f7e6add9724f72c147374224"), looks := false }, kinds := [], alts := [], laidByText := true, laidKinds := [.data, .data, .data], laidTests := true, laidLooks := .later }
def MusterStepsCardSaid : Prop := Claim7.holds Tryz.pinned (.plain (OpenSpec.ofChange musterStepsSpec)) musterStepsCard

/-- THE TIED CARD OF 'gasolierlaw09.MusterLends'. -/
def musterLendsCard : Claim7 := { stood := { row := musterLendsRow, standIns := [], harness := (true, "ddc12b51475b83b79dc50a6a1a73d81463255e21f7e6add9724f72c147374224"), looks := false }, kinds := [], alts := [], laidByText := true, laidKinds := [.data, .data, .data], laidTests := true, laidLooks := .later }
def MusterLendsCardSaid : Prop := Claim7.holds Tryz.pinned (.plain (OpenSpec.ofChange musterLendsSpec)) musterLendsCard

/-- THE TIED CARD OF 'gasolierlaw09.MusterValid'. -/
def musterValidCard : Claim7 := { stood := { row := musterValidRow, standIns := [], harness := (true, "ddc12b51475b83b79dc50a6a1a73d81463255e21f7e6add9724f72c147374224"), looks := false }, kinds := [], alts := [], laidByText := true, laidKinds := [.data, .data, .data], laidTests := true, laidLooks := .later }
def MusterValidCardSaid : Prop := Claim7.holds Tryz.pinned (.plain (OpenSpec.ofChange musterValidSpec)) musterValidCard

/-- THE TIED CARD OF 'gasolierlaw09.MusterEnds'. -/
def musterEndsCard : Claim7 := { stood := { row := musterEndsRow, standIns := [], harness := (true, "ddc12b51475b83b79dc50a6a1a73d81463255e21f7e6add9724f72c147374224"), looks := false }, kinds := [], alts := [], laidByText := true, laidKinds := [.data, .data, .data], laidTests := true, laidLooks := .later }
def MusterEndsCardSaid : Prop := Claim7.holds Tryz.pinned (.plain (OpenSpec.ofChange musterEndsSpec)) musterEndsCard

/-- THE TIED CARD OF 'gasolierlaw09.MusterTells'. -/
def musterTellsCard : Claim7 := { stood := { row := musterTellsRow, standIns := [], harness := (true, "ddc12b51475b83b79dc50a6a1a73d81463255e21f7e6add9724f72c147374224"), looks := false }, kinds := [], alts := [], laidByText := true, laidKinds := [.data, .data, .data], laidTests := true, laidLooks := .later }
def MusterTellsCardSaid : Prop := Claim7.holds Tryz.pinned (.plain (OpenSpec.ofChange musterTellsSpec)) musterTellsCard

/-- THE TIED CARD OF 'gasolierlaw09.MusterAll'. -/
def musterAllCard : Claim7 := { stood := { row := musterAllRow, standIns := [], harness := (true, "ddc12b51475b83b79dc50a6a1a73d81463255e21f7e6add9724f72c147374224"), looks := false }, kinds := [], alts := [], laidByText := true, laidKinds := [.data, .data, .data], laidTests := true, laidLooks := .later }
def MusterAllCardSaid : Prop := Claim7.holds Tryz.pinned (.plain (OpenSpec.ofChange musterAllSpec)) musterAllCard

/-- THE TIED CARD OF 'gasolierlaw09.MusterOnce'. -/
def musterOnceCard : Claim7 := { stood := { row := musterOnceRow, standIns := [], harness := (true, "ddc12b51475b83b79dc50a6a1a73d81463255e21f7e6add9724f72c147374224"), looks := false }, kinds := [], alts := [], laidByText := true, laidKinds := [.data, .data, .data], laidTests := true, laidLooks := .later }
def MusterOnceCardSaid : Prop := Claim7.holds Tryz.pinned (.plain (OpenSpec.ofChange musterOnceSpec)) musterOnceCard

/-- THE SECOND FORM's CARD OF 'gasolierlaw09.MusterCalls'. -/
def musterCallsUptoCard : Claim7 := { stood := { row := musterCallsUptoRow, standIns := [], harness := (true, "ddc12b51475b83b79dc50a6a1a73d81463255e21f7e6add9724f72c147374224"), looks := false }, kinds := [], alts := [], laidByText := true, laidKinds := [.data, .data, .data], laidTests := true, laidLooks := .later }
def MusterCallsUptoCardSaid : Prop := Claim7.holds Tryz.pinned (.plain (OpenSpec.upto musterCallsSpec)) musterCallsUptoCard

/-- THE SECOND FORM's CARD OF 'gasolierlaw09.MusterChecks'. -/
def musterChecksUptoCard : Claim7 := { stood := { row := musterChecksUptoRow, standIns := [], harness := (true, "ddc12b51475b83b79dc50a6a1a73d81463255e21f7e6add9724f72c147374224"), looks := false }, kinds := [], alts := [], laidByText := true, laidKinds := [.data, .data, .data], laidTests := true, laidLooks := .later }
def MusterChecksUptoCardSaid : Prop := Claim7.holds Tryz.pinned (.plain (OpenSpec.upto musterChecksSpec)) musterChecksUptoCard

/-- THE SECOND FORM's CARD OF 'gasolierlaw09.MusterSteps'. -/
def musterStepsUptoCard : Claim7 := { stood := { row := musterStepsUptoRow, standIns := [], harness := (true, "ddc12b51475b83b79dc50a6a1a73d81463255e21f7e6add9724f72c147374224"), looks := false }, kinds := [], alts := [], laidByText := true, laidKinds := [.data, .data, .data], laidTests := true, laidLooks := .later }
def MusterStepsUptoCardSaid : Prop := Claim7.holds Tryz.pinned (.plain (OpenSpec.upto musterStepsSpec)) musterStepsUptoCard

/-- THE SECOND FORM's CARD OF 'gasolierlaw09.MusterLends'. -/
def musterLendsUptoCard : Claim7 := { stood := { row := musterLendsUptoRow, standIns := [], harness := (true, "ddc12b51475b83b79dc50a6a1a73d81463255e21f7e6add9724f72c147374224"), looks := false }, kinds := [], alts := [], laidByText := true, laidKinds := [.data, .data, .data], laidTests := true, laidLooks := .later }
def MusterLendsUptoCardSaid : Prop := Claim7.holds Tryz.pinned (.plain (OpenSpec.upto musterLendsSpec)) musterLendsUptoCard

/-- THE SECOND FORM's CARD OF 'gasolierlaw09.MusterValid'. -/
def musterValidUptoCard : Claim7 := { stood := { row := musterValidUptoRow, standIns := [], harness := (true, "ddc12b51475b83b79dc50a6a1a73d81463255e21f7e6add9724f72c147374224"), looks := false }, kinds := [], alts := [], laidByText := true, laidKinds := [.data, .data, .data], laidTests := true, laidLooks := .later }
def MusterValidUptoCardSaid : Prop := Claim7.holds Tryz.pinned (.plain (OpenSpec.upto musterValidSpec)) musterValidUptoCard

/-- THE SECOND FORM's CARD OF 'gasolierlaw09.MusterEnds'. -/
def musterEndsUptoCard : Claim7 := { stood := { row := musterEndsUptoRow, standIns := [], harness := (true, "ddc12b51475b83b79dc50a6a1a73d81463255e21f7e6add9724f72c147374224"), looks := false }, kinds := [], alts := [], laidByText := true, laidKinds := [.data, .data, .data], laidTests := true, laidLooks := .later }
def MusterEndsUptoCardSaid : Prop := Claim7.holds Tryz.pinned (.plain (OpenSpec.upto musterEndsSpec)) musterEndsUptoCard

/-- THE SECOND FORM's CARD OF 'gasolierlaw09.MusterTells'. -/
def musterTellsUptoCard : Claim7 := { stood := { row := musterTellsUptoRow, standIns := [], harness := (true, "ddc12b51475b83b79dc50a6a1a73d81463255e21f7e6add9724f72c147374224"), looks := false }, kinds := [], alts := [], laidByText := true, laidKinds := [.data, .data, .data], laidTests := true, laidLooks := .later }
def MusterTellsUptoCardSaid : Prop := Claim7.holds Tryz.pinned (.plain (OpenSpec.upto musterTellsSpec)) musterTellsUptoCard

/-- THE SECOND FORM's CARD OF 'gasolierlaw09.MusterAll'. -/
def musterAllUptoCard : Claim7 := { stood := { row := musterAllUptoRow, standIns := [], harness := (true, "ddc12b51475b83b79dc50a6a1a73d81463255e21f7e6add9724f72c147374224"), looks := false }, kinds := [], alts := [], laidByText := true, laidKinds := [.data, .data, .data], laidTests := true, laidLooks := .later }
def MusterAllUptoCardSaid : Prop := Claim7.holds Tryz.pinned (.plain (OpenSpec.upto musterAllSpec)) musterAllUptoCard

/-- THE SECOND FORM's CARD OF 'gasolierlaw09.MusterOnce'. -/
def musterOnceUptoCard : Claim7 := { stood := { row := musterOnceUptoRow, standIns := [], harness := (true, "ddc12b51475b83b79dc50a6a1a73d81463255e21f7e6add9724f72c147374224"), looks := false }, kinds := [], alts := [], laidByText := true, laidKinds := [.data, .data, .data], laidTests := true, laidLooks := .later }
def MusterOnceUptoCardSaid : Prop := Claim7.holds Tryz.pinned (.plain (OpenSpec.upto musterOnceSpec)) musterOnceUptoCard
end Rows
end Go.Proofs.YtcedmbakcchkiaaGreatDoor
