import Derived.Test.YtibeagkgilmokaaGreatDoorFkMS2x1
namespace Go.Proofs.YtibeagkgilmokaaGreatDoor
open Go.Dv
def m2 : List (FuncId × List Ent) := [(75, [⟨a30, v30, b30⟩]), (138, [⟨a31, v31, b31⟩]), (181, [⟨a32, v32, b32⟩, ⟨a33, v33, b33⟩, ⟨a34, v34, b34⟩, ⟨a35, v35, b35⟩, ⟨a36, v36, b36⟩, ⟨a37, v37, b37⟩, ⟨a38, v38, b38⟩, ⟨a39, v39, b39⟩, ⟨a40, v40, b40⟩, ⟨a41, v41, b41⟩]), (188, [⟨a42, v42, b42⟩, ⟨a43, v43, b43⟩, ⟨a44, v44, b44⟩, ⟨a45, v45, b45⟩, ⟨a46, v46, b46⟩])]
noncomputable def E2 : Env := lay E1 m2
theorem good2 (ts : Nat → Nat) : Good E2 (fun i => (tplK ts K).blk i) := good_layer (good1 ts) (hTpl ts) m2 ⟨by kernel_rfl, ⟨.of (r30 ts), trivial⟩, ⟨by kernel_rfl, ⟨.of (r31 ts), trivial⟩, ⟨by kernel_rfl, ⟨.of (r32 ts), ⟨.of (r33 ts), ⟨.of (r34 ts), ⟨.of (r35 ts), ⟨.of (r36 ts), ⟨.of (r37 ts), ⟨.of (r38 ts), ⟨.of (r39 ts), ⟨.of (r40 ts), ⟨.of (r41 ts), trivial⟩⟩⟩⟩⟩⟩⟩⟩⟩⟩, ⟨by kernel_rfl, ⟨.of (r42 ts), ⟨.of (r43 ts), ⟨.of (r44 ts), ⟨.of (r45 ts), ⟨.of (r46 ts), trivial⟩⟩⟩⟩⟩, trivial⟩⟩⟩⟩
end Go.Proofs.YtibeagkgilmokaaGreatDoor
