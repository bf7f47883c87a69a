/- A closed fact of the row. -/
import Derived.Test.YtggdlgclohnbaaaGreatDoorRows
import Derived.WalkKit
import Derived.ProofKit
import Derived.OpenShut
namespace Go.Proofs.YtggdlgclohnbaaaGreatDoor
open Go Go.RowKit
theorem a9E : joinedFacts Tryz.prog 3 Tryz.f3 (Rows.OpenSpec.upto Rows.depotFallsSpec).bare Rows.depotFallsUptoRow = true := by kernel_rfl
end Go.Proofs.YtggdlgclohnbaaaGreatDoor
