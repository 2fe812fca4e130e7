import Derived.Test.YtibeagkgilmokaaGreatDoorRows
import Derived.Test.YtibeagkgilmokaaGreatDoorTie
import Derived.WalkKit
import Derived.ProofKit
import Derived.OpenShut
import Derived.Deep.DeepHandedRow
import Derived.Deep.DeepWitnessRowRef
import Derived.Lib.LaidTab
import Derived.Test.YtibeagkgilmokaaGreatDoorCards
namespace Go.Proofs.YtibeagkgilmokaaGreatDoor
open Go.Proofs Go.ChangeShapes Go.WideShapes Go.ChangeAt Go.RowKit
theorem j25 : (Tryz.prog.mayEnter) = true := by kernel_rfl
theorem j22 : ((Rows.flowKnownRow.plainKeys == Tryz.prog.plainKeys)) = true := by kernel_rfl
theorem j24 : (Tryz.prog.stopsHeard) = true := by kernel_rfl
theorem j26 : ((Rows.flowKnownRow.lifted == Tryz.prog.liftsFinal)) = true := by kernel_rfl
theorem j27 : ((Tryz.prog.make == some Rows.flowKnownRow.make)) = true := by kernel_rfl
end Go.Proofs.YtibeagkgilmokaaGreatDoor
