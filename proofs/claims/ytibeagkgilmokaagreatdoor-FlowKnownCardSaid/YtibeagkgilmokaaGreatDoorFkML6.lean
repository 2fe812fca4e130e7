import Derived.Test.YtibeagkgilmokaaGreatDoorFkMS6x1
namespace Go.Proofs.YtibeagkgilmokaaGreatDoor
open Go.Dv
def m6 : List (FuncId × List Ent) := [(113, [⟨a95, v95, b95⟩, ⟨a96, v96, b96⟩, ⟨a97, v97, b97⟩, ⟨a98, v98, b98⟩])]
noncomputable def E6 : Env := lay E5 m6
theorem good6 (ts : Nat → Nat) : Good E6 (fun i => (tplK ts K).blk i) := good_layer (good5 ts) (hTpl ts) m6 ⟨by kernel_rfl, ⟨.of (r95 ts), ⟨.of (r96 ts), ⟨.of (r97 ts), ⟨.of (r98 ts), trivial⟩⟩⟩⟩, trivial⟩
end Go.Proofs.YtibeagkgilmokaaGreatDoor
