import Derived.Test.YtjhicjgclbapkaaGreatDoorAkMS2x1
import Derived.Test.YtjhicjgclbapkaaGreatDoorAkMS2x2
namespace Go.Proofs.YtjhicjgclbapkaaGreatDoor
open Go.Dv
def m2 : List (FuncId × List Ent) := [(68, [⟨a19, v19, b19⟩, ⟨a20, v20, b20⟩]), (143, [⟨a21, v21, b21⟩]), (197, [⟨a22, v22, b22⟩, ⟨a23, v23, b23⟩, ⟨a24, v24, b24⟩, ⟨a25, v25, b25⟩]), (287, [⟨a26, v26, b26⟩]), (352, [⟨a27, v27, b27⟩, ⟨a28, v28, b28⟩, ⟨a29, v29, b29⟩, ⟨a30, v30, b30⟩, ⟨a31, v31, b31⟩, ⟨a32, v32, b32⟩])]
noncomputable def E2 : Env := lay E1 m2
theorem good2 (ts : Nat → Nat) : Good E2 (fun i => (tplK ts K).blk i) := good_layer (good1 ts) (hTpl ts) m2 ⟨by kernel_rfl, ⟨.of (r19 ts), ⟨.of (r20 ts), trivial⟩⟩, ⟨by kernel_rfl, ⟨.of (r21 ts), trivial⟩, ⟨by kernel_rfl, ⟨.of (r22 ts), ⟨.of (r23 ts), ⟨.of (r24 ts), ⟨.of (r25 ts), trivial⟩⟩⟩⟩, ⟨by kernel_rfl, ⟨.of (r26 ts), trivial⟩, ⟨by kernel_rfl, ⟨.of (r27 ts), ⟨.of (r28 ts), ⟨.of (r29 ts), ⟨.of (r30 ts), ⟨.of (r31 ts), ⟨.of (r32 ts), trivial⟩⟩⟩⟩⟩⟩, trivial⟩⟩⟩⟩⟩
end Go.Proofs.YtjhicjgclbapkaaGreatDoor
