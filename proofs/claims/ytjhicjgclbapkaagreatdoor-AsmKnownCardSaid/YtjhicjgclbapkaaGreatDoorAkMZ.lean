import Derived.Test.YtjhicjgclbapkaaGreatDoorAkML7
namespace Go.Proofs.YtjhicjgclbapkaaGreatDoor
open Go.Dv
set_option maxRecDepth 1000000 in
theorem known_run (ts : Nat → Nat) : isTrue ((fx E7 100000000).call 6 [] (tplK ts K)) = true := by kernel_rfl
end Go.Proofs.YtjhicjgclbapkaaGreatDoor
