import Derived.Test.YtjhicjgclbapkaaGreatDoorAkMS3x1
import Derived.Test.YtjhicjgclbapkaaGreatDoorAkMS3x2
namespace Go.Proofs.YtjhicjgclbapkaaGreatDoor
open Go.Dv
def m3 : List (FuncId × List Ent) := [(31, [⟨a33, v33, b33⟩]), (32, [⟨a34, v34, b34⟩, ⟨a35, v35, b35⟩]), (110, [⟨a36, v36, b36⟩, ⟨a37, v37, b37⟩, ⟨a38, v38, b38⟩, ⟨a39, v39, b39⟩]), (193, [⟨a40, v40, b40⟩, ⟨a41, v41, b41⟩, ⟨a42, v42, b42⟩, ⟨a43, v43, b43⟩]), (233, [⟨a44, v44, b44⟩])]
noncomputable def E3 : Env := lay E2 m3
theorem good3 (ts : Nat → Nat) : Good E3 (fun i => (tplK ts K).blk i) := good_layer (good2 ts) (hTpl ts) m3 ⟨by kernel_rfl, ⟨.of (r33 ts), trivial⟩, ⟨by kernel_rfl, ⟨.of (r34 ts), ⟨.of (r35 ts), trivial⟩⟩, ⟨by kernel_rfl, ⟨.of (r36 ts), ⟨.of (r37 ts), ⟨.of (r38 ts), ⟨.of (r39 ts), trivial⟩⟩⟩⟩, ⟨by kernel_rfl, ⟨.of (r40 ts), ⟨.of (r41 ts), ⟨.of (r42 ts), ⟨.of (r43 ts), trivial⟩⟩⟩⟩, ⟨by kernel_rfl, ⟨.of (r44 ts), trivial⟩, trivial⟩⟩⟩⟩⟩
end Go.Proofs.YtjhicjgclbapkaaGreatDoor
