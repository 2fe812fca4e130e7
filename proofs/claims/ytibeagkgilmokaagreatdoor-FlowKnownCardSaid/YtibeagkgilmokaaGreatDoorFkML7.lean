import Derived.Test.YtibeagkgilmokaaGreatDoorFkMS7x1
import Derived.Test.YtibeagkgilmokaaGreatDoorFkMS7x2
import Derived.Test.YtibeagkgilmokaaGreatDoorFkMS7x3
import Derived.Test.YtibeagkgilmokaaGreatDoorFkMS7x4
namespace Go.Proofs.YtibeagkgilmokaaGreatDoor
open Go.Dv
def m7 : List (FuncId × List Ent) := [(10, [⟨a99, v99, b99⟩, ⟨a100, v100, b100⟩, ⟨a101, v101, b101⟩, ⟨a102, v102, b102⟩])]
noncomputable def E7 : Env := lay E6 m7
theorem good7 (ts : Nat → Nat) : Good E7 (fun i => (tplK ts K).blk i) := good_layer (good6 ts) (hTpl ts) m7 ⟨by kernel_rfl, ⟨.of (r99 ts), ⟨.of (r100 ts), ⟨.of (r101 ts), ⟨.of (r102 ts), trivial⟩⟩⟩⟩, trivial⟩
end Go.Proofs.YtibeagkgilmokaaGreatDoor
