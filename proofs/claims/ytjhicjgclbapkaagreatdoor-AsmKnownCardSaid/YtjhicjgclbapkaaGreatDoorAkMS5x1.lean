import Derived.Test.YtjhicjgclbapkaaGreatDoorAkML4
namespace Go.Proofs.YtjhicjgclbapkaaGreatDoor
open Go.Dv
def a57 : List Value := [.string ⟨⟨[110, 111, 112]⟩⟩]
def v57 : Value := .tuple ⟨[.agg ⟨[.int .u32 0, .slice (some ⟨19, 0, none⟩) 4 4611686018427387905, .slice (some ⟨18, 0, none⟩) 1 4611686018427387907, .slice (some ⟨17, 0, none⟩) 1 4611686018427387905, .slice (some ⟨16, 0, none⟩) 1 4611686018427387909, .int .i64 1, .int .i64 0, .int .i64 0]⟩, .slice none 0 0]⟩
def b57 : List Blk := [.cells [.int .u8 1, .int .u8 0, .int .u8 0, .int .u8 0, .int .u8 0, .int .u8 0, .int .u8 0, .bool false, .bool false, .int .u16 0, .int .i64 0] 96 true none 0, .cells [.slice (some ⟨15, 0, none⟩) 1 4611686018427387915, .bool false, .bool false, .bool false, .bool false] 47 true none 0, .cells [.int .u32 0] 22 true none 0, .cells [.int .u32 0, .int .i64 4, .bool true] 93 true none 0, .cells [.int .u8 0, .int .u8 192, .int .u8 0, .int .u8 4] 5 true none 0]
set_option maxRecDepth 1000000 in
theorem r57 (ts : Nat → Nat) : sumUpF E4 100000000 31 a57 (tplK ts K) [82, 240, 239, 232, 233] = some (v57, b57) := by kernel_rfl
def a58 : List Value := [.int .u8 30]
def v58 : Value := .bool true
def b58 : List Blk := []
set_option maxRecDepth 1000000 in
theorem r58 (ts : Nat → Nat) : sumUpF E4 100000000 143 a58 (tplK ts K) [] = some (v58, b58) := by kernel_rfl
def a59 : List Value := [.agg ⟨[.int .u8 30, .int .u8 0, .int .u8 0, .int .u8 0, .int .u8 0, .int .u8 0, .int .u8 0, .bool false, .bool false, .int .u16 3, .int .i64 4]⟩, .int .u32 0]
def v59 : Value := .tuple ⟨[.int .i64 4, .bool true]⟩
def b59 : List Blk := []
set_option maxRecDepth 1000000 in
theorem r59 (ts : Nat → Nat) : sumUpF E4 100000000 269 a59 (tplK ts K) [] = some (v59, b59) := by kernel_rfl
end Go.Proofs.YtjhicjgclbapkaaGreatDoor
