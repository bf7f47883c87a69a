/- A closed fact of the row. -/
import Derived.Test.YtggdlgclohnbaaaGreatDoorRows
import Derived.WalkKit
import Derived.ProofKit
import Derived.OpenShut
namespace Go.Proofs.YtggdlgclohnbaaaGreatDoor
open Go Go.RowKit
theorem b3g : joinedFacts Tryz.prog 11 Tryz.f11 Rows.depotDepotsSpec Rows.depotDepotsRow = true := by kernel_rfl
end Go.Proofs.YtggdlgclohnbaaaGreatDoor
