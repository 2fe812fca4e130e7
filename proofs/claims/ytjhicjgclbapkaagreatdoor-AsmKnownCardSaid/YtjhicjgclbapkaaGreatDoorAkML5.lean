import Derived.Test.YtjhicjgclbapkaaGreatDoorAkMS5x1
namespace Go.Proofs.YtjhicjgclbapkaaGreatDoor
open Go.Dv
def m5 : List (FuncId × List Ent) := [(31, [⟨a57, v57, b57⟩]), (143, [⟨a58, v58, b58⟩]), (269, [⟨a59, v59, b59⟩])]
noncomputable def E5 : Env := lay E4 m5
theorem good5 (ts : Nat → Nat) : Good E5 (fun i => (tplK ts K).blk i) := good_layer (good4 ts) (hTpl ts) m5 ⟨by kernel_rfl, ⟨.of (r57 ts), trivial⟩, ⟨by kernel_rfl, ⟨.of (r58 ts), trivial⟩, ⟨by kernel_rfl, ⟨.of (r59 ts), trivial⟩, trivial⟩⟩⟩
end Go.Proofs.YtjhicjgclbapkaaGreatDoor
