import Derived.Test.YtibeagkgilmokaaGreatDoorFkML8
namespace Go.Proofs.YtibeagkgilmokaaGreatDoor
open Go.Dv
set_option maxRecDepth 1000000 in
theorem known_run (ts : Nat → Nat) : isTrue ((fx E8 100000000).call 3 [] (tplK ts K)) = true := by kernel_rfl
end Go.Proofs.YtibeagkgilmokaaGreatDoor
