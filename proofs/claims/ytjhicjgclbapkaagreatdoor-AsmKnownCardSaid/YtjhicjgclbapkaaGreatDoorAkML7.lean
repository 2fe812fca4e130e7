import Derived.Test.YtjhicjgclbapkaaGreatDoorAkMS7x1
namespace Go.Proofs.YtjhicjgclbapkaaGreatDoor
open Go.Dv
def m7 : List (FuncId × List Ent) := [(31, [⟨a61, v61, b61⟩])]
noncomputable def E7 : Env := lay E6 m7
theorem good7 (ts : Nat → Nat) : Good E7 (fun i => (tplK ts K).blk i) := good_layer (good6 ts) (hTpl ts) m7 ⟨by kernel_rfl, ⟨.of (r61 ts), trivial⟩, trivial⟩
end Go.Proofs.YtjhicjgclbapkaaGreatDoor
