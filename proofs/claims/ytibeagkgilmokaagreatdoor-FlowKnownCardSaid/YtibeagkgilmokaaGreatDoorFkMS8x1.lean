import Derived.Test.YtibeagkgilmokaaGreatDoorFkML7
namespace Go.Proofs.YtibeagkgilmokaaGreatDoor
open Go.Dv
def a103 : List Value := [.string ⟨⟨[108, 111, 111, 112, 48, 40, 65, 44, 32, 35, 51, 41, 10, 65, 58, 32, 123, 32, 110, 111, 112, 10, 32, 110, 111, 112, 32, 125, 32, 58, 101, 110, 100, 108, 111, 111, 112, 48, 10, 106, 117, 109, 112, 114, 32, 114, 51, 49, 10]⟩⟩]
def v103 : Value := .slice (some ⟨16, 0, none⟩) 3 4611686018427387908
def b103 : List Blk := [.cells [.int .u32 4, .int .u32 12] 24 true none 0, .cells [.int .u32 4] 24 true none 0, .cells [.int .u32 0, .int .i64 1, .slice (some ⟨15, 0, none⟩) 1 4611686018427387905, .bool false, .int .u32 4, .int .i64 2, .slice (some ⟨14, 0, none⟩) 2 4611686018427387905, .bool false, .int .u32 12, .int .i64 1, .slice none 0 0, .bool true] 27 true none 0]
set_option maxRecDepth 1000000 in
theorem r103 (ts : Nat → Nat) : sumUpF E7 100000000 4 a103 (tplK ts K) [290, 278, 300] = some (v103, b103) := by kernel_rfl
def a104 : List Value := [.string ⟨⟨[110, 111, 112, 10, 76, 58, 32, 106, 117, 109, 112, 32, 76, 10, 110, 111, 112, 10]⟩⟩]
def v104 : Value := .slice (some ⟨17, 0, none⟩) 3 4611686018427387908
def b104 : List Blk := [.cells [.int .u32 12] 24 true none 0, .cells [.int .u32 4] 24 true none 0, .cells [.int .u32 4] 24 true none 0, .cells [.int .u32 0, .int .i64 1, .slice (some ⟨16, 0, none⟩) 1 4611686018427387905, .bool false, .int .u32 4, .int .i64 1, .slice (some ⟨15, 0, none⟩) 1 4611686018427387905, .bool false, .int .u32 8, .int .i64 1, .slice (some ⟨14, 0, none⟩) 1 4611686018427387905, .bool false] 27 true none 0]
set_option maxRecDepth 1000000 in
theorem r104 (ts : Nat → Nat) : sumUpF E7 100000000 4 a104 (tplK ts K) [208, 198, 188, 210] = some (v104, b104) := by kernel_rfl
def a105 : List Value := [.string ⟨⟨[99, 97, 108, 108, 32, 56, 10, 110, 111, 112, 10, 46, 115, 101, 99, 116, 105, 111, 110, 32, 100, 97, 116, 97, 10, 46, 119, 111, 114, 100, 32, 48, 10, 46, 115, 101, 99, 116, 105, 111, 110, 32, 99, 111, 100, 101, 10, 110, 111, 112]⟩⟩]
def v105 : Value := .slice (some ⟨17, 0, none⟩) 3 4611686018427387908
def b105 : List Blk := [.cells [.int .u32 16] 24 true none 0, .cells [.int .u32 8] 24 true none 0, .cells [.int .u32 8] 24 true none 0, .cells [.int .u32 0, .int .i64 1, .slice (some ⟨16, 0, none⟩) 1 4611686018427387905, .bool false, .int .u32 4, .int .i64 1, .slice (some ⟨15, 0, none⟩) 1 4611686018427387905, .bool false, .int .u32 12, .int .i64 1, .slice (some ⟨14, 0, none⟩) 1 4611686018427387905, .bool false] 27 true none 0]
set_option maxRecDepth 1000000 in
theorem r105 (ts : Nat → Nat) : sumUpF E7 100000000 4 a105 (tplK ts K) [205, 195, 185, 207] = some (v105, b105) := by kernel_rfl
end Go.Proofs.YtibeagkgilmokaaGreatDoor
