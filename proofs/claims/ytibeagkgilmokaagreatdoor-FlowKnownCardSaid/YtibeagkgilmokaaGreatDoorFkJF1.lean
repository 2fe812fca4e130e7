import Derived.Test.YtibeagkgilmokaaGreatDoorRows
import Derived.Test.YtibeagkgilmokaaGreatDoorTie
import Derived.WalkKit
import Derived.ProofKit
import Derived.OpenShut
import Derived.Deep.DeepHandedRow
import Derived.Deep.DeepWitnessRowRef
import Derived.Lib.LaidTab
import Derived.Test.YtibeagkgilmokaaGreatDoorCards
namespace Go.Proofs.YtibeagkgilmokaaGreatDoor
open Go.Proofs Go.ChangeShapes Go.WideShapes Go.ChangeAt Go.RowKit
theorem j9 : ((Rows.flowKnownRow.inPlace == Tryz.prog.inPlace 3)) = true := by kernel_rfl
theorem j10 : ((Rows.flowKnownRow.unfollowed == Tryz.prog.unfollowed 3)) = true := by kernel_rfl
end Go.Proofs.YtibeagkgilmokaaGreatDoor
