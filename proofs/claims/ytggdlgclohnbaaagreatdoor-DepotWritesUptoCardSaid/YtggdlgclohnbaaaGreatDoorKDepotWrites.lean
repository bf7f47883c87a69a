/- A closed fact of the row. -/
import Derived.Test.YtggdlgclohnbaaaGreatDoorRows
import Derived.WalkKit
import Derived.ProofKit
import Derived.OpenShut
namespace Go.Proofs.YtggdlgclohnbaaaGreatDoor
open Go Go.RowKit
theorem a8s : joinedFacts Tryz.prog 4 Tryz.f4 (Rows.OpenSpec.upto Rows.depotWritesSpec).bare Rows.depotWritesUptoRow = true := by kernel_rfl
end Go.Proofs.YtggdlgclohnbaaaGreatDoor
