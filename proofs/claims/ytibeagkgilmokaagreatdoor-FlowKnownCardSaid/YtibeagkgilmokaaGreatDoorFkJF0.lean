import Derived.Test.YtibeagkgilmokaaGreatDoorRows
import Derived.Test.YtibeagkgilmokaaGreatDoorTie
import Derived.WalkKit
import Derived.ProofKit
import Derived.OpenShut
import Derived.Deep.DeepHandedRow
import Derived.Deep.DeepWitnessRowRef
import Derived.Lib.LaidTab
import Derived.Test.YtibeagkgilmokaaGreatDoorCards
namespace Go.Proofs.YtibeagkgilmokaaGreatDoor
open Go.Proofs Go.ChangeShapes Go.WideShapes Go.ChangeAt Go.RowKit
theorem j1 : (laidOutB Tryz.prog) = true := by kernel_rfl
theorem j2 : (mapsRowed Tryz.prog) = true := by kernel_rfl
end Go.Proofs.YtibeagkgilmokaaGreatDoor
