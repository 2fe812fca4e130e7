import Derived.Test.YtibeagkgilmokaaGreatDoorFkMS4x1
namespace Go.Proofs.YtibeagkgilmokaaGreatDoor
open Go.Dv
def m4 : List (FuncId × List Ent) := [(17, [⟨a64, v64, b64⟩, ⟨a65, v65, b65⟩]), (62, [⟨a66, v66, b66⟩]), (111, [⟨a67, v67, b67⟩, ⟨a68, v68, b68⟩, ⟨a69, v69, b69⟩]), (112, [⟨a70, v70, b70⟩, ⟨a71, v71, b71⟩]), (171, [⟨a72, v72, b72⟩, ⟨a73, v73, b73⟩, ⟨a74, v74, b74⟩, ⟨a75, v75, b75⟩, ⟨a76, v76, b76⟩, ⟨a77, v77, b77⟩]), (200, [⟨a78, v78, b78⟩, ⟨a79, v79, b79⟩, ⟨a80, v80, b80⟩, ⟨a81, v81, b81⟩, ⟨a82, v82, b82⟩, ⟨a83, v83, b83⟩])]
noncomputable def E4 : Env := lay E3 m4
theorem good4 (ts : Nat → Nat) : Good E4 (fun i => (tplK ts K).blk i) := good_layer (good3 ts) (hTpl ts) m4 ⟨by kernel_rfl, ⟨.of (r64 ts), ⟨.of (r65 ts), trivial⟩⟩, ⟨by kernel_rfl, ⟨.of (r66 ts), trivial⟩, ⟨by kernel_rfl, ⟨.of (r67 ts), ⟨.of (r68 ts), ⟨.of (r69 ts), trivial⟩⟩⟩, ⟨by kernel_rfl, ⟨.of (r70 ts), ⟨.of (r71 ts), trivial⟩⟩, ⟨by kernel_rfl, ⟨.of (r72 ts), ⟨.of (r73 ts), ⟨.of (r74 ts), ⟨.of (r75 ts), ⟨.of (r76 ts), ⟨.of (r77 ts), trivial⟩⟩⟩⟩⟩⟩, ⟨by kernel_rfl, ⟨.of (r78 ts), ⟨.of (r79 ts), ⟨.of (r80 ts), ⟨.of (r81 ts), ⟨.of (r82 ts), ⟨.of (r83 ts), trivial⟩⟩⟩⟩⟩⟩, trivial⟩⟩⟩⟩⟩⟩
end Go.Proofs.YtibeagkgilmokaaGreatDoor
