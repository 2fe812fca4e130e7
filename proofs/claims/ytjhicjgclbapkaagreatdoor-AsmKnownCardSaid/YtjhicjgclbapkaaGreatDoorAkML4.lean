import Derived.Test.YtjhicjgclbapkaaGreatDoorAkMS4x1
namespace Go.Proofs.YtjhicjgclbapkaaGreatDoor
open Go.Dv
def m4 : List (FuncId × List Ent) := [(31, [⟨a45, v45, b45⟩]), (95, [⟨a46, v46, b46⟩, ⟨a47, v47, b47⟩, ⟨a48, v48, b48⟩, ⟨a49, v49, b49⟩]), (143, [⟨a50, v50, b50⟩, ⟨a51, v51, b51⟩]), (173, [⟨a52, v52, b52⟩, ⟨a53, v53, b53⟩]), (192, [⟨a54, v54, b54⟩, ⟨a55, v55, b55⟩]), (233, [⟨a56, v56, b56⟩])]
noncomputable def E4 : Env := lay E3 m4
theorem good4 (ts : Nat → Nat) : Good E4 (fun i => (tplK ts K).blk i) := good_layer (good3 ts) (hTpl ts) m4 ⟨by kernel_rfl, ⟨.of (r45 ts), trivial⟩, ⟨by kernel_rfl, ⟨.of (r46 ts), ⟨.of (r47 ts), ⟨.of (r48 ts), ⟨.of (r49 ts), trivial⟩⟩⟩⟩, ⟨by kernel_rfl, ⟨.of (r50 ts), ⟨.of (r51 ts), trivial⟩⟩, ⟨by kernel_rfl, ⟨.of (r52 ts), ⟨.of (r53 ts), trivial⟩⟩, ⟨by kernel_rfl, ⟨.of (r54 ts), ⟨.of (r55 ts), trivial⟩⟩, ⟨by kernel_rfl, ⟨.of (r56 ts), trivial⟩, trivial⟩⟩⟩⟩⟩⟩
end Go.Proofs.YtjhicjgclbapkaaGreatDoor
