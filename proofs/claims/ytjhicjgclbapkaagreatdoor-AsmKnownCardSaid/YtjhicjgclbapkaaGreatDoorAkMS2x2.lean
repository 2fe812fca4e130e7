import Derived.Test.YtjhicjgclbapkaaGreatDoorAkML1
namespace Go.Proofs.YtjhicjgclbapkaaGreatDoor
open Go.Dv
def a21 : List Value := [.int .u8 27]
def v21 : Value := .bool true
def b21 : List Blk := []
set_option maxRecDepth 1000000 in
theorem r21 (ts : Nat → Nat) : sumUpF E1 100000000 143 a21 (tplK ts K) [] = some (v21, b21) := by kernel_rfl
def a22 : List Value := [.int .u8 1]
def v22 : Value := .tuple ⟨[.agg ⟨[.int .u8 1, .string ⟨⟨[110, 111, 112]⟩⟩, .int .u8 1, .int .u8 15, .slice none 0 0]⟩, .bool true]⟩
def b22 : List Blk := []
set_option maxRecDepth 1000000 in
theorem r22 (ts : Nat → Nat) : sumUpF E1 100000000 197 a22 (tplK ts K) [] = some (v22, b22) := by kernel_rfl
def a23 : List Value := [.int .u8 30]
def v23 : Value := .tuple ⟨[.agg ⟨[.int .u8 30, .string ⟨⟨[108, 111, 111, 112, 105]⟩⟩, .int .u8 6, .int .u8 8, .slice (some ⟨15, 0, none⟩) 3 4611686018427387909]⟩, .bool true]⟩
def b23 : List Blk := [.cells [.int .u8 7, .int .i64 1, .int .i64 0, .bool false, .bool false, .int .u8 10, .int .i64 12, .int .i64 2, .bool true, .bool true, .int .u8 11, .int .i64 11, .int .i64 0, .bool false, .bool false] 315 true none 0]
set_option maxRecDepth 1000000 in
theorem r23 (ts : Nat → Nat) : sumUpF E1 100000000 197 a23 (tplK ts K) [17] = some (v23, b23) := by kernel_rfl
def a24 : List Value := [.int .u8 7]
def v24 : Value := .tuple ⟨[.agg ⟨[.int .u8 7, .string ⟨⟨[97, 100, 100, 105]⟩⟩, .int .u8 1, .int .u8 15, .slice (some ⟨15, 0, none⟩) 3 4611686018427387909]⟩, .bool true]⟩
def b24 : List Blk := [.cells [.int .u8 3, .int .i64 5, .int .i64 0, .bool false, .bool false, .int .u8 5, .int .i64 5, .int .i64 0, .bool false, .bool false, .int .u8 9, .int .i64 14, .int .i64 0, .bool true, .bool true] 315 true none 0]
set_option maxRecDepth 1000000 in
theorem r24 (ts : Nat → Nat) : sumUpF E1 100000000 197 a24 (tplK ts K) [40] = some (v24, b24) := by kernel_rfl
def a25 : List Value := [.int .u8 8]
def v25 : Value := .tuple ⟨[.agg ⟨[.int .u8 8, .string ⟨⟨[109, 111, 118, 105]⟩⟩, .int .u8 1, .int .u8 15, .slice (some ⟨15, 0, none⟩) 4 4611686018427387909]⟩, .bool true]⟩
def b25 : List Blk := [.cells [.int .u8 1, .int .i64 3, .int .i64 0, .bool false, .bool false, .int .u8 2, .int .i64 2, .int .i64 0, .bool false, .bool false, .int .u8 3, .int .i64 5, .int .i64 0, .bool false, .bool false, .int .u8 9, .int .i64 14, .int .i64 0, .bool true, .bool true] 315 true none 0]
set_option maxRecDepth 1000000 in
theorem r25 (ts : Nat → Nat) : sumUpF E1 100000000 197 a25 (tplK ts K) [39] = some (v25, b25) := by kernel_rfl
def a26 : List Value := [.string ⟨⟨[46, 98, 121, 116, 101]⟩⟩]
def v26 : Value := .bool false
def b26 : List Blk := []
set_option maxRecDepth 1000000 in
theorem r26 (ts : Nat → Nat) : sumUpF E1 100000000 287 a26 (tplK ts K) [] = some (v26, b26) := by kernel_rfl
def a27 : List Value := [.string ⟨⟨[106, 117, 109, 112]⟩⟩, .string ⟨⟨[112]⟩⟩, .int .i64 4]
def v27 : Value := .tuple ⟨[.int .u8 0, .bool false]⟩
def b27 : List Blk := []
set_option maxRecDepth 1000000 in
theorem r27 (ts : Nat → Nat) : sumUpF E1 100000000 352 a27 (tplK ts K) [] = some (v27, b27) := by kernel_rfl
def a28 : List Value := [.string ⟨⟨[106, 117, 109, 112]⟩⟩, .string ⟨⟨[114]⟩⟩, .int .i64 32]
def v28 : Value := .tuple ⟨[.int .u8 0, .bool false]⟩
def b28 : List Blk := []
set_option maxRecDepth 1000000 in
theorem r28 (ts : Nat → Nat) : sumUpF E1 100000000 352 a28 (tplK ts K) [] = some (v28, b28) := by kernel_rfl
def a29 : List Value := [.string ⟨⟨[108, 111, 111, 112, 48]⟩⟩, .string ⟨⟨[112]⟩⟩, .int .i64 4]
def v29 : Value := .tuple ⟨[.int .u8 0, .bool false]⟩
def b29 : List Blk := []
set_option maxRecDepth 1000000 in
theorem r29 (ts : Nat → Nat) : sumUpF E1 100000000 352 a29 (tplK ts K) [] = some (v29, b29) := by kernel_rfl
def a30 : List Value := [.string ⟨⟨[108, 111, 111, 112, 48]⟩⟩, .string ⟨⟨[114]⟩⟩, .int .i64 32]
def v30 : Value := .tuple ⟨[.int .u8 0, .bool false]⟩
def b30 : List Blk := []
set_option maxRecDepth 1000000 in
theorem r30 (ts : Nat → Nat) : sumUpF E1 100000000 352 a30 (tplK ts K) [] = some (v30, b30) := by kernel_rfl
def a31 : List Value := [.string ⟨⟨[110, 111, 112]⟩⟩, .string ⟨⟨[112]⟩⟩, .int .i64 4]
def v31 : Value := .tuple ⟨[.int .u8 0, .bool false]⟩
def b31 : List Blk := []
set_option maxRecDepth 1000000 in
theorem r31 (ts : Nat → Nat) : sumUpF E1 100000000 352 a31 (tplK ts K) [] = some (v31, b31) := by kernel_rfl
def a32 : List Value := [.string ⟨⟨[110, 111, 112]⟩⟩, .string ⟨⟨[114]⟩⟩, .int .i64 32]
def v32 : Value := .tuple ⟨[.int .u8 0, .bool false]⟩
def b32 : List Blk := []
set_option maxRecDepth 1000000 in
theorem r32 (ts : Nat → Nat) : sumUpF E1 100000000 352 a32 (tplK ts K) [] = some (v32, b32) := by kernel_rfl
end Go.Proofs.YtjhicjgclbapkaaGreatDoor
