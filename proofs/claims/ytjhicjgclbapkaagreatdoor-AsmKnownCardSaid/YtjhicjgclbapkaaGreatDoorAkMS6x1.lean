import Derived.Test.YtjhicjgclbapkaaGreatDoorAkML5
namespace Go.Proofs.YtjhicjgclbapkaaGreatDoor
open Go.Dv
def a60 : List Value := [.agg ⟨[.int .u8 30, .int .u8 0, .int .u8 0, .int .u8 0, .int .u8 0, .int .u8 0, .int .u8 0, .bool false, .bool false, .int .u16 3, .int .i64 4]⟩, .int .u32 0]
def v60 : Value := .bool true
def b60 : List Blk := []
set_option maxRecDepth 1000000 in
theorem r60 (ts : Nat → Nat) : sumUpF E5 100000000 192 a60 (tplK ts K) [] = some (v60, b60) := by kernel_rfl
end Go.Proofs.YtjhicjgclbapkaaGreatDoor
