import Derived.Test.YtibeagkgilmokaaGreatDoorFkML1
namespace Go.Proofs.YtibeagkgilmokaaGreatDoor
open Go.Dv
def a30 : List Value := [.int .u32 67158016]
def v30 : Value := .int .u8 3
def b30 : List Blk := []
set_option maxRecDepth 1000000 in
theorem r30 (ts : Nat → Nat) : sumUpF E1 100000000 75 a30 (tplK ts K) [] = some (v30, b30) := by kernel_rfl
def a31 : List Value := [.string ⟨⟨[46, 115, 101, 99, 116, 105, 111, 110]⟩⟩]
def v31 : Value := .bool false
def b31 : List Blk := []
set_option maxRecDepth 1000000 in
theorem r31 (ts : Nat → Nat) : sumUpF E1 100000000 138 a31 (tplK ts K) [] = some (v31, b31) := by kernel_rfl
def a32 : List Value := [.string ⟨⟨[106, 117, 109, 112, 114]⟩⟩, .string ⟨⟨[112]⟩⟩, .int .i64 4]
def v32 : Value := .tuple ⟨[.int .u8 0, .bool false]⟩
def b32 : List Blk := []
set_option maxRecDepth 1000000 in
theorem r32 (ts : Nat → Nat) : sumUpF E1 100000000 181 a32 (tplK ts K) [] = some (v32, b32) := by kernel_rfl
def a33 : List Value := [.string ⟨⟨[106, 117, 109, 112, 114]⟩⟩, .string ⟨⟨[114]⟩⟩, .int .i64 32]
def v33 : Value := .tuple ⟨[.int .u8 0, .bool false]⟩
def b33 : List Blk := []
set_option maxRecDepth 1000000 in
theorem r33 (ts : Nat → Nat) : sumUpF E1 100000000 181 a33 (tplK ts K) [] = some (v33, b33) := by kernel_rfl
def a34 : List Value := [.string ⟨⟨[106, 117, 109, 112]⟩⟩, .string ⟨⟨[112]⟩⟩, .int .i64 4]
def v34 : Value := .tuple ⟨[.int .u8 0, .bool false]⟩
def b34 : List Blk := []
set_option maxRecDepth 1000000 in
theorem r34 (ts : Nat → Nat) : sumUpF E1 100000000 181 a34 (tplK ts K) [] = some (v34, b34) := by kernel_rfl
def a35 : List Value := [.string ⟨⟨[106, 117, 109, 112]⟩⟩, .string ⟨⟨[114]⟩⟩, .int .i64 32]
def v35 : Value := .tuple ⟨[.int .u8 0, .bool false]⟩
def b35 : List Blk := []
set_option maxRecDepth 1000000 in
theorem r35 (ts : Nat → Nat) : sumUpF E1 100000000 181 a35 (tplK ts K) [] = some (v35, b35) := by kernel_rfl
def a36 : List Value := [.string ⟨⟨[108, 111, 111, 112, 48]⟩⟩, .string ⟨⟨[112]⟩⟩, .int .i64 4]
def v36 : Value := .tuple ⟨[.int .u8 0, .bool false]⟩
def b36 : List Blk := []
set_option maxRecDepth 1000000 in
theorem r36 (ts : Nat → Nat) : sumUpF E1 100000000 181 a36 (tplK ts K) [] = some (v36, b36) := by kernel_rfl
def a37 : List Value := [.string ⟨⟨[108, 111, 111, 112, 48]⟩⟩, .string ⟨⟨[114]⟩⟩, .int .i64 32]
def v37 : Value := .tuple ⟨[.int .u8 0, .bool false]⟩
def b37 : List Blk := []
set_option maxRecDepth 1000000 in
theorem r37 (ts : Nat → Nat) : sumUpF E1 100000000 181 a37 (tplK ts K) [] = some (v37, b37) := by kernel_rfl
def a38 : List Value := [.string ⟨⟨[110, 111, 112]⟩⟩, .string ⟨⟨[112]⟩⟩, .int .i64 4]
def v38 : Value := .tuple ⟨[.int .u8 0, .bool false]⟩
def b38 : List Blk := []
set_option maxRecDepth 1000000 in
theorem r38 (ts : Nat → Nat) : sumUpF E1 100000000 181 a38 (tplK ts K) [] = some (v38, b38) := by kernel_rfl
def a39 : List Value := [.string ⟨⟨[110, 111, 112]⟩⟩, .string ⟨⟨[114]⟩⟩, .int .i64 32]
def v39 : Value := .tuple ⟨[.int .u8 0, .bool false]⟩
def b39 : List Blk := []
set_option maxRecDepth 1000000 in
theorem r39 (ts : Nat → Nat) : sumUpF E1 100000000 181 a39 (tplK ts K) [] = some (v39, b39) := by kernel_rfl
def a40 : List Value := [.string ⟨⟨[99, 97, 108, 108]⟩⟩, .string ⟨⟨[112]⟩⟩, .int .i64 4]
def v40 : Value := .tuple ⟨[.int .u8 0, .bool false]⟩
def b40 : List Blk := []
set_option maxRecDepth 1000000 in
theorem r40 (ts : Nat → Nat) : sumUpF E1 100000000 181 a40 (tplK ts K) [] = some (v40, b40) := by kernel_rfl
def a41 : List Value := [.string ⟨⟨[99, 97, 108, 108]⟩⟩, .string ⟨⟨[114]⟩⟩, .int .i64 32]
def v41 : Value := .tuple ⟨[.int .u8 0, .bool false]⟩
def b41 : List Blk := []
set_option maxRecDepth 1000000 in
theorem r41 (ts : Nat → Nat) : sumUpF E1 100000000 181 a41 (tplK ts K) [] = some (v41, b41) := by kernel_rfl
def a42 : List Value := [.int .u8 1]
def v42 : Value := .tuple ⟨[.agg ⟨[.int .u8 1, .string ⟨⟨[110, 111, 112]⟩⟩, .int .u8 1, .int .u8 15, .slice none 0 0]⟩, .bool true]⟩
def b42 : List Blk := []
set_option maxRecDepth 1000000 in
theorem r42 (ts : Nat → Nat) : sumUpF E1 100000000 188 a42 (tplK ts K) [] = some (v42, b42) := by kernel_rfl
def a43 : List Value := [.int .u8 27]
def v43 : Value := .tuple ⟨[.agg ⟨[.int .u8 27, .string ⟨⟨[106, 117, 109, 112]⟩⟩, .int .u8 5, .int .u8 12, .slice (some ⟨14, 0, none⟩) 3 4611686018427387909]⟩, .bool true]⟩
def b43 : List Blk := [.cells [.int .u8 1, .int .i64 3, .int .i64 0, .bool false, .bool false, .int .u8 2, .int .i64 2, .int .i64 0, .bool false, .bool false, .int .u8 10, .int .i64 19, .int .i64 2, .bool true, .bool true] 216 true none 0]
set_option maxRecDepth 1000000 in
theorem r43 (ts : Nat → Nat) : sumUpF E1 100000000 188 a43 (tplK ts K) [19] = some (v43, b43) := by kernel_rfl
def a44 : List Value := [.int .u8 28]
def v44 : Value := .tuple ⟨[.agg ⟨[.int .u8 28, .string ⟨⟨[106, 117, 109, 112, 114]⟩⟩, .int .u8 5, .int .u8 12, .slice (some ⟨14, 0, none⟩) 3 4611686018427387909]⟩, .bool true]⟩
def b44 : List Blk := [.cells [.int .u8 1, .int .i64 3, .int .i64 0, .bool false, .bool false, .int .u8 2, .int .i64 2, .int .i64 0, .bool false, .bool false, .int .u8 5, .int .i64 5, .int .i64 0, .bool false, .bool false] 216 true none 0]
set_option maxRecDepth 1000000 in
theorem r44 (ts : Nat → Nat) : sumUpF E1 100000000 188 a44 (tplK ts K) [18] = some (v44, b44) := by kernel_rfl
def a45 : List Value := [.int .u8 29]
def v45 : Value := .tuple ⟨[.agg ⟨[.int .u8 29, .string ⟨⟨[99, 97, 108, 108]⟩⟩, .int .u8 5, .int .u8 12, .slice (some ⟨14, 0, none⟩) 1 4611686018427387909]⟩, .bool true]⟩
def b45 : List Blk := [.cells [.int .u8 10, .int .i64 24, .int .i64 2, .bool true, .bool true] 216 true none 0]
set_option maxRecDepth 1000000 in
theorem r45 (ts : Nat → Nat) : sumUpF E1 100000000 188 a45 (tplK ts K) [17] = some (v45, b45) := by kernel_rfl
def a46 : List Value := [.int .u8 30]
def v46 : Value := .tuple ⟨[.agg ⟨[.int .u8 30, .string ⟨⟨[108, 111, 111, 112, 105]⟩⟩, .int .u8 6, .int .u8 8, .slice (some ⟨14, 0, none⟩) 3 4611686018427387909]⟩, .bool true]⟩
def b46 : List Blk := [.cells [.int .u8 7, .int .i64 1, .int .i64 0, .bool false, .bool false, .int .u8 10, .int .i64 12, .int .i64 2, .bool true, .bool true, .int .u8 11, .int .i64 11, .int .i64 0, .bool false, .bool false] 216 true none 0]
set_option maxRecDepth 1000000 in
theorem r46 (ts : Nat → Nat) : sumUpF E1 100000000 188 a46 (tplK ts K) [16] = some (v46, b46) := by kernel_rfl
end Go.Proofs.YtibeagkgilmokaaGreatDoor
