import Derived.Test.YtibeagkgilmokaaGreatDoorFkML6
namespace Go.Proofs.YtibeagkgilmokaaGreatDoor
open Go.Dv
def a99 : List Value := [.string ⟨⟨[105, 102, 32, 40, 112, 48, 41, 32, 106, 117, 109, 112, 32, 49, 54, 10]⟩⟩]
def v99 : Value := .tuple ⟨[.agg ⟨[.int .u32 0, .slice (some ⟨18, 0, none⟩) 4 4611686018427387905, .slice (some ⟨17, 0, none⟩) 1 4611686018427387907, .slice (some ⟨16, 0, none⟩) 1 4611686018427387905, .slice (some ⟨15, 0, none⟩) 1 4611686018427387909, .int .i64 1, .int .i64 1, .int .i64 0]⟩, .slice none 0 0]⟩
def b99 : List Blk := [.cells [.int .u8 27, .int .u8 0, .int .u8 0, .int .u8 0, .int .u8 0, .int .u8 0, .int .u8 1, .bool false, .bool false, .int .u16 0, .int .i64 16] 77 true none 0, .cells [.slice (some ⟨14, 0, none⟩) 1 4611686018427387915, .bool false, .bool false, .bool false, .bool false] 51 true none 0, .cells [.int .u32 0] 24 true none 0, .cells [.int .u32 0, .int .i64 4, .bool true] 72 true none 0, .cells [.int .u8 4, .int .u8 192, .int .u8 128, .int .u8 108] 5 true none 0]
set_option maxRecDepth 1000000 in
theorem r99 (ts : Nat → Nat) : sumUpF E6 100000000 10 a99 (tplK ts K) [107, 303, 302, 295, 296] = some (v99, b99) := by kernel_rfl
end Go.Proofs.YtibeagkgilmokaaGreatDoor
