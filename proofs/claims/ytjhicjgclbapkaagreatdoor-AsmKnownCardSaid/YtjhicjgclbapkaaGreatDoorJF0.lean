import Derived.Test.YtjhicjgclbapkaaGreatDoorRows
import Derived.Test.YtjhicjgclbapkaaGreatDoorTie
import Derived.WalkKit
import Derived.ProofKit
import Derived.OpenShut
import Derived.Deep.DeepHandedRow
import Derived.Deep.DeepWitnessRowRef
import Derived.Lib.LaidTab
import Derived.Test.YtjhicjgclbapkaaGreatDoorCards
namespace Go.Proofs.YtjhicjgclbapkaaGreatDoor
open Go.Proofs Go.ChangeShapes Go.WideShapes Go.ChangeAt Go.RowKit
theorem j1 : (laidOutB Tryz.prog) = true := by kernel_rfl
theorem j2 : (mapsRowed Tryz.prog) = true := by kernel_rfl
end Go.Proofs.YtjhicjgclbapkaaGreatDoor
