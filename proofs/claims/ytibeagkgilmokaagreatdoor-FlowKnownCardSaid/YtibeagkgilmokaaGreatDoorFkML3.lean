import Derived.Test.YtibeagkgilmokaaGreatDoorFkMS3x1
namespace Go.Proofs.YtibeagkgilmokaaGreatDoor
open Go.Dv
def m3 : List (FuncId × List Ent) := [(17, [⟨a47, v47, b47⟩]), (111, [⟨a48, v48, b48⟩, ⟨a49, v49, b49⟩]), (138, [⟨a50, v50, b50⟩]), (145, [⟨a51, v51, b51⟩, ⟨a52, v52, b52⟩, ⟨a53, v53, b53⟩, ⟨a54, v54, b54⟩, ⟨a55, v55, b55⟩, ⟨a56, v56, b56⟩, ⟨a57, v57, b57⟩, ⟨a58, v58, b58⟩]), (150, [⟨a59, v59, b59⟩, ⟨a60, v60, b60⟩, ⟨a61, v61, b61⟩, ⟨a62, v62, b62⟩, ⟨a63, v63, b63⟩])]
noncomputable def E3 : Env := lay E2 m3
theorem good3 (ts : Nat → Nat) : Good E3 (fun i => (tplK ts K).blk i) := good_layer (good2 ts) (hTpl ts) m3 ⟨by kernel_rfl, ⟨.of (r47 ts), trivial⟩, ⟨by kernel_rfl, ⟨.of (r48 ts), ⟨.of (r49 ts), trivial⟩⟩, ⟨by kernel_rfl, ⟨.of (r50 ts), trivial⟩, ⟨by kernel_rfl, ⟨.of (r51 ts), ⟨.of (r52 ts), ⟨.of (r53 ts), ⟨.of (r54 ts), ⟨.of (r55 ts), ⟨.of (r56 ts), ⟨.of (r57 ts), ⟨.of (r58 ts), trivial⟩⟩⟩⟩⟩⟩⟩⟩, ⟨by kernel_rfl, ⟨.of (r59 ts), ⟨.of (r60 ts), ⟨.of (r61 ts), ⟨.of (r62 ts), ⟨.of (r63 ts), trivial⟩⟩⟩⟩⟩, trivial⟩⟩⟩⟩⟩
end Go.Proofs.YtibeagkgilmokaaGreatDoor
