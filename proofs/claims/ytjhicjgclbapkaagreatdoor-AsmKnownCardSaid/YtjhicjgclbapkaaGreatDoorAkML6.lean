import Derived.Test.YtjhicjgclbapkaaGreatDoorAkMS6x1
namespace Go.Proofs.YtjhicjgclbapkaaGreatDoor
open Go.Dv
def m6 : List (FuncId × List Ent) := [(192, [⟨a60, v60, b60⟩])]
noncomputable def E6 : Env := lay E5 m6
theorem good6 (ts : Nat → Nat) : Good E6 (fun i => (tplK ts K).blk i) := good_layer (good5 ts) (hTpl ts) m6 ⟨by kernel_rfl, ⟨.of (r60 ts), trivial⟩, trivial⟩
end Go.Proofs.YtjhicjgclbapkaaGreatDoor
