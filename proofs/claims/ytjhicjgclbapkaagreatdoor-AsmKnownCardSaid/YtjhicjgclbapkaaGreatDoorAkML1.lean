import Derived.Test.YtjhicjgclbapkaaGreatDoorAkMS1x1
namespace Go.Proofs.YtjhicjgclbapkaaGreatDoor
open Go.Dv
def m1 : List (FuncId × List Ent) := [(272, [⟨a1, v1, b1⟩]), (286, [⟨a2, v2, b2⟩, ⟨a3, v3, b3⟩]), (352, [⟨a4, v4, b4⟩, ⟨a5, v5, b5⟩, ⟨a6, v6, b6⟩, ⟨a7, v7, b7⟩]), (377, [⟨a8, v8, b8⟩, ⟨a9, v9, b9⟩, ⟨a10, v10, b10⟩, ⟨a11, v11, b11⟩, ⟨a12, v12, b12⟩, ⟨a13, v13, b13⟩, ⟨a14, v14, b14⟩, ⟨a15, v15, b15⟩, ⟨a16, v16, b16⟩, ⟨a17, v17, b17⟩, ⟨a18, v18, b18⟩])]
noncomputable def E1 : Env := lay E0 m1
theorem good1 (ts : Nat → Nat) : Good E1 (fun i => (tplK ts K).blk i) := good_layer (good0 ts) (hTpl ts) m1 ⟨by kernel_rfl, ⟨.of (r1 ts), trivial⟩, ⟨by kernel_rfl, ⟨.of (r2 ts), ⟨.of (r3 ts), trivial⟩⟩, ⟨by kernel_rfl, ⟨.of (r4 ts), ⟨.of (r5 ts), ⟨.of (r6 ts), ⟨.of (r7 ts), trivial⟩⟩⟩⟩, ⟨by kernel_rfl, ⟨.of (r8 ts), ⟨.of (r9 ts), ⟨.of (r10 ts), ⟨.of (r11 ts), ⟨.of (r12 ts), ⟨.of (r13 ts), ⟨.of (r14 ts), ⟨.of (r15 ts), ⟨.of (r16 ts), ⟨.of (r17 ts), ⟨.of (r18 ts), trivial⟩⟩⟩⟩⟩⟩⟩⟩⟩⟩⟩, trivial⟩⟩⟩⟩
end Go.Proofs.YtjhicjgclbapkaaGreatDoor
