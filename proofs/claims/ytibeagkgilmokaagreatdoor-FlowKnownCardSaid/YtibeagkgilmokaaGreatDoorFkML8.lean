import Derived.Test.YtibeagkgilmokaaGreatDoorFkMS8x1
namespace Go.Proofs.YtibeagkgilmokaaGreatDoor
open Go.Dv
def m8 : List (FuncId × List Ent) := [(4, [⟨a103, v103, b103⟩, ⟨a104, v104, b104⟩, ⟨a105, v105, b105⟩])]
noncomputable def E8 : Env := lay E7 m8
theorem good8 (ts : Nat → Nat) : Good E8 (fun i => (tplK ts K).blk i) := good_layer (good7 ts) (hTpl ts) m8 ⟨by kernel_rfl, ⟨.of (r103 ts), ⟨.of (r104 ts), ⟨.of (r105 ts), trivial⟩⟩⟩, trivial⟩
end Go.Proofs.YtibeagkgilmokaaGreatDoor
