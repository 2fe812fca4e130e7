import Derived.Test.YtibeagkgilmokaaGreatDoorFkMS5x1
namespace Go.Proofs.YtibeagkgilmokaaGreatDoor
open Go.Dv
def m5 : List (FuncId × List Ent) := [(62, [⟨a84, v84, b84⟩, ⟨a85, v85, b85⟩, ⟨a86, v86, b86⟩]), (146, [⟨a87, v87, b87⟩, ⟨a88, v88, b88⟩, ⟨a89, v89, b89⟩, ⟨a90, v90, b90⟩]), (149, [⟨a91, v91, b91⟩]), (170, [⟨a92, v92, b92⟩]), (214, [⟨a93, v93, b93⟩]), (215, [⟨a94, v94, b94⟩])]
noncomputable def E5 : Env := lay E4 m5
theorem good5 (ts : Nat → Nat) : Good E5 (fun i => (tplK ts K).blk i) := good_layer (good4 ts) (hTpl ts) m5 ⟨by kernel_rfl, ⟨.of (r84 ts), ⟨.of (r85 ts), ⟨.of (r86 ts), trivial⟩⟩⟩, ⟨by kernel_rfl, ⟨.of (r87 ts), ⟨.of (r88 ts), ⟨.of (r89 ts), ⟨.of (r90 ts), trivial⟩⟩⟩⟩, ⟨by kernel_rfl, ⟨.of (r91 ts), trivial⟩, ⟨by kernel_rfl, ⟨.of (r92 ts), trivial⟩, ⟨by kernel_rfl, ⟨.of (r93 ts), trivial⟩, ⟨by kernel_rfl, ⟨.of (r94 ts), trivial⟩, trivial⟩⟩⟩⟩⟩⟩
end Go.Proofs.YtibeagkgilmokaaGreatDoor
