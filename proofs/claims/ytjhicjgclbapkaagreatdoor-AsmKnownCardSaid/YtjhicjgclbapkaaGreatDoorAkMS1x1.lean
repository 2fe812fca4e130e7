import Derived.Test.YtjhicjgclbapkaaGreatDoorAk
namespace Go.Proofs.YtjhicjgclbapkaaGreatDoor
open Go.Dv
def a1 : List Value := []
def v1 : Value := .slice (some ⟨45, 0, none⟩) 31 31
def b1 : List Blk := [.cells [.int .u8 7, .int .i64 1, .int .i64 0, .bool false, .bool false, .int .u8 10, .int .i64 12, .int .i64 2, .bool true, .bool true, .int .u8 5, .int .i64 5, .int .i64 0, .bool false, .bool false] 315 true none 0, .cells [.int .u8 7, .int .i64 1, .int .i64 0, .bool false, .bool false, .int .u8 10, .int .i64 12, .int .i64 2, .bool true, .bool true, .int .u8 11, .int .i64 11, .int .i64 0, .bool false, .bool false] 315 true none 0, .cells [.int .u8 10, .int .i64 24, .int .i64 2, .bool true, .bool true] 315 true none 0, .cells [.int .u8 1, .int .i64 3, .int .i64 0, .bool false, .bool false, .int .u8 2, .int .i64 2, .int .i64 0, .bool false, .bool false, .int .u8 5, .int .i64 5, .int .i64 0, .bool false, .bool false] 315 true none 0, .cells [.int .u8 1, .int .i64 3, .int .i64 0, .bool false, .bool false, .int .u8 2, .int .i64 2, .int .i64 0, .bool false, .bool false, .int .u8 10, .int .i64 19, .int .i64 2, .bool true, .bool true] 315 true none 0, .cells [.int .u8 5, .int .i64 5, .int .i64 0, .bool false, .bool false, .int .u8 8, .int .i64 1, .int .i64 0, .bool false, .bool false, .int .u8 6, .int .i64 5, .int .i64 0, .bool false, .bool false, .int .u8 9, .int .i64 12, .int .i64 0, .bool true, .bool true] 315 true none 0, .cells [.int .u8 5, .int .i64 5, .int .i64 0, .bool false, .bool false, .int .u8 8, .int .i64 1, .int .i64 0, .bool false, .bool false, .int .u8 6, .int .i64 5, .int .i64 0, .bool false, .bool false, .int .u8 9, .int .i64 12, .int .i64 1, .bool true, .bool true] 315 true none 0, .cells [.int .u8 5, .int .i64 5, .int .i64 0, .bool false, .bool false, .int .u8 8, .int .i64 1, .int .i64 0, .bool false, .bool false, .int .u8 6, .int .i64 5, .int .i64 0, .bool false, .bool false, .int .u8 9, .int .i64 12, .int .i64 2, .bool true, .bool true] 315 true none 0, .cells [.int .u8 3, .int .i64 5, .int .i64 0, .bool false, .bool false, .int .u8 5, .int .i64 5, .int .i64 0, .bool false, .bool false, .int .u8 9, .int .i64 12, .int .i64 0, .bool true, .bool true] 315 true none 0, .cells [.int .u8 3, .int .i64 5, .int .i64 0, .bool false, .bool false, .int .u8 5, .int .i64 5, .int .i64 0, .bool false, .bool false, .int .u8 9, .int .i64 12, .int .i64 1, .bool true, .bool true] 315 true none 0, .cells [.int .u8 3, .int .i64 5, .int .i64 0, .bool false, .bool false, .int .u8 5, .int .i64 5, .int .i64 0, .bool false, .bool false, .int .u8 9, .int .i64 12, .int .i64 2, .bool true, .bool true] 315 true none 0, .cells [.int .u8 3, .int .i64 5, .int .i64 0, .bool false, .bool false, .int .u8 5, .int .i64 5, .int .i64 0, .bool false, .bool false, .int .u8 6, .int .i64 5, .int .i64 0, .bool false, .bool false] 315 true none 0, .cells [.int .u8 3, .int .i64 5, .int .i64 0, .bool false, .bool false, .int .u8 5, .int .i64 5, .int .i64 0, .bool false, .bool false, .int .u8 6, .int .i64 5, .int .i64 0, .bool false, .bool false] 315 true none 0, .cells [.int .u8 3, .int .i64 5, .int .i64 0, .bool false, .bool false, .int .u8 5, .int .i64 5, .int .i64 0, .bool false, .bool false, .int .u8 6, .int .i64 5, .int .i64 0, .bool false, .bool false] 315 true none 0, .cells [.int .u8 3, .int .i64 5, .int .i64 0, .bool false, .bool false, .int .u8 5, .int .i64 5, .int .i64 0, .bool false, .bool false, .int .u8 9, .int .i64 5, .int .i64 0, .bool false, .bool false] 315 true none 0, .cells [.int .u8 3, .int .i64 5, .int .i64 0, .bool false, .bool false, .int .u8 5, .int .i64 5, .int .i64 0, .bool false, .bool false, .int .u8 9, .int .i64 5, .int .i64 0, .bool false, .bool false] 315 true none 0, .cells [.int .u8 3, .int .i64 5, .int .i64 0, .bool false, .bool false, .int .u8 5, .int .i64 5, .int .i64 0, .bool false, .bool false, .int .u8 9, .int .i64 5, .int .i64 0, .bool false, .bool false] 315 true none 0, .cells [.int .u8 3, .int .i64 5, .int .i64 0, .bool false, .bool false, .int .u8 2, .int .i64 2, .int .i64 0, .bool false, .bool false, .int .u8 5, .int .i64 5, .int .i64 0, .bool false, .bool false, .int .u8 6, .int .i64 5, .int .i64 0, .bool false, .bool false] 315 true none 0, .cells [.int .u8 4, .int .i64 2, .int .i64 0, .bool false, .bool false, .int .u8 5, .int .i64 5, .int .i64 0, .bool false, .bool false, .int .u8 9, .int .i64 14, .int .i64 0, .bool true, .bool true] 315 true none 0, .cells [.int .u8 4, .int .i64 2, .int .i64 0, .bool false, .bool false, .int .u8 5, .int .i64 5, .int .i64 0, .bool false, .bool false, .int .u8 6, .int .i64 5, .int .i64 0, .bool false, .bool false] 315 true none 0, .cells [.int .u8 4, .int .i64 2, .int .i64 0, .bool false, .bool false, .int .u8 5, .int .i64 5, .int .i64 0, .bool false, .bool false, .int .u8 6, .int .i64 5, .int .i64 0, .bool false, .bool false] 315 true none 0, .cells [.int .u8 4, .int .i64 2, .int .i64 0, .bool false, .bool false, .int .u8 5, .int .i64 5, .int .i64 0, .bool false, .bool false, .int .u8 6, .int .i64 5, .int .i64 0, .bool false, .bool false] 315 true none 0, .cells [.int .u8 1, .int .i64 3, .int .i64 0, .bool false, .bool false, .int .u8 2, .int .i64 2, .int .i64 0, .bool false, .bool false, .int .u8 3, .int .i64 5, .int .i64 0, .bool false, .bool false, .int .u8 5, .int .i64 5, .int .i64 0, .bool false, .bool false] 315 true none 0, .cells [.int .u8 1, .int .i64 3, .int .i64 0, .bool false, .bool false, .int .u8 2, .int .i64 2, .int .i64 0, .bool false, .bool false, .int .u8 3, .int .i64 5, .int .i64 0, .bool false, .bool false, .int .u8 9, .int .i64 14, .int .i64 0, .bool true, .bool true] 315 true none 0, .cells [.int .u8 3, .int .i64 5, .int .i64 0, .bool false, .bool false, .int .u8 5, .int .i64 5, .int .i64 0, .bool false, .bool false, .int .u8 9, .int .i64 14, .int .i64 0, .bool true, .bool true] 315 true none 0, .cells [.int .u8 1, .int .i64 3, .int .i64 0, .bool false, .bool false, .int .u8 2, .int .i64 2, .int .i64 0, .bool false, .bool false, .int .u8 3, .int .i64 5, .int .i64 0, .bool false, .bool false, .int .u8 5, .int .i64 5, .int .i64 0, .bool false, .bool false, .int .u8 6, .int .i64 5, .int .i64 0, .bool false, .bool false] 315 true none 0, .cells [.int .u8 1, .int .i64 3, .int .i64 0, .bool false, .bool false, .int .u8 2, .int .i64 2, .int .i64 0, .bool false, .bool false, .int .u8 3, .int .i64 5, .int .i64 0, .bool false, .bool false, .int .u8 5, .int .i64 5, .int .i64 0, .bool false, .bool false, .int .u8 6, .int .i64 5, .int .i64 0, .bool false, .bool false] 315 true none 0, .cells [.int .u8 1, .int .i64 3, .int .i64 0, .bool false, .bool false, .int .u8 2, .int .i64 2, .int .i64 0, .bool false, .bool false, .int .u8 3, .int .i64 5, .int .i64 0, .bool false, .bool false, .int .u8 5, .int .i64 5, .int .i64 0, .bool false, .bool false, .int .u8 6, .int .i64 5, .int .i64 0, .bool false, .bool false] 315 true none 0, .cells [.int .u8 1, .int .i64 3, .int .i64 0, .bool false, .bool false, .int .u8 2, .int .i64 2, .int .i64 0, .bool false, .bool false, .int .u8 3, .int .i64 5, .int .i64 0, .bool false, .bool false, .int .u8 5, .int .i64 5, .int .i64 0, .bool false, .bool false, .int .u8 6, .int .i64 5, .int .i64 0, .bool false, .bool false] 315 true none 0, .cells [.int .u8 1, .int .i64 3, .int .i64 0, .bool false, .bool false, .int .u8 2, .int .i64 2, .int .i64 0, .bool false, .bool false, .int .u8 3, .int .i64 5, .int .i64 0, .bool false, .bool false, .int .u8 5, .int .i64 5, .int .i64 0, .bool false, .bool false, .int .u8 6, .int .i64 5, .int .i64 0, .bool false, .bool false] 315 true none 0, .cells [.int .u8 1, .string ⟨⟨[110, 111, 112]⟩⟩, .int .u8 1, .int .u8 15, .slice none 0 0, .int .u8 2, .string ⟨⟨[97, 100, 100]⟩⟩, .int .u8 1, .int .u8 15, .slice (some ⟨44, 0, none⟩) 5 4611686018427387909, .int .u8 3, .string ⟨⟨[115, 117, 98]⟩⟩, .int .u8 1, .int .u8 15, .slice (some ⟨43, 0, none⟩) 5 4611686018427387909, .int .u8 4, .string ⟨⟨[97, 110, 100]⟩⟩, .int .u8 1, .int .u8 15, .slice (some ⟨42, 0, none⟩) 5 4611686018427387909, .int .u8 5, .string ⟨⟨[111, 114]⟩⟩, .int .u8 1, .int .u8 15, .slice (some ⟨41, 0, none⟩) 5 4611686018427387909, .int .u8 6, .string ⟨⟨[120, 111, 114]⟩⟩, .int .u8 1, .int .u8 15, .slice (some ⟨40, 0, none⟩) 5 4611686018427387909, .int .u8 7, .string ⟨⟨[97, 100, 100, 105]⟩⟩, .int .u8 1, .int .u8 15, .slice (some ⟨39, 0, none⟩) 3 4611686018427387909, .int .u8 8, .string ⟨⟨[109, 111, 118, 105]⟩⟩, .int .u8 1, .int .u8 15, .slice (some ⟨38, 0, none⟩) 4 4611686018427387909, .int .u8 9, .string ⟨⟨[109, 111, 118]⟩⟩, .int .u8 1, .int .u8 15, .slice (some ⟨37, 0, none⟩) 4 4611686018427387909, .int .u8 10, .string ⟨⟨[99, 109, 112, 101, 113]⟩⟩, .int .u8 1, .int .u8 15, .slice (some ⟨36, 0, none⟩) 3 4611686018427387909, .int .u8 11, .string ⟨⟨[99, 109, 112, 103, 116]⟩⟩, .int .u8 1, .int .u8 15, .slice (some ⟨35, 0, none⟩) 3 4611686018427387909, .int .u8 12, .string ⟨⟨[99, 109, 112, 103, 116, 117]⟩⟩, .int .u8 1, .int .u8 15, .slice (some ⟨34, 0, none⟩) 3 4611686018427387909, .int .u8 13, .string ⟨⟨[99, 109, 112, 101, 113, 105]⟩⟩, .int .u8 1, .int .u8 15, .slice (some ⟨33, 0, none⟩) 3 4611686018427387909, .int .u8 14, .string ⟨⟨[109, 117, 120]⟩⟩, .int .u8 1, .int .u8 15, .slice (some ⟨32, 0, none⟩) 4 4611686018427387909, .int .u8 15, .string ⟨⟨[97, 115, 108]⟩⟩, .int .u8 2, .int .u8 12, .slice (some ⟨31, 0, none⟩) 3 4611686018427387909, .int .u8 16, .string ⟨⟨[108, 115, 114]⟩⟩, .int .u8 2, .int .u8 12, .slice (some ⟨30, 0, none⟩) 3 4611686018427387909, .int .u8 17, .string ⟨⟨[97, 115, 114]⟩⟩, .int .u8 2, .int .u8 12, .slice (some ⟨29, 0, none⟩) 3 4611686018427387909, .int .u8 18, .string ⟨⟨[109, 112, 121]⟩⟩, .int .u8 2, .int .u8 12, .slice (some ⟨28, 0, none⟩) 3 4611686018427387909, .int .u8 19, .string ⟨⟨[99, 109, 112, 121]⟩⟩, .int .u8 2, .int .u8 12, .slice (some ⟨27, 0, none⟩) 3 4611686018427387909, .int .u8 20, .string ⟨⟨[99, 109, 112, 121, 99]⟩⟩, .int .u8 2, .int .u8 12, .slice (some ⟨26, 0, none⟩) 3 4611686018427387909, .int .u8 21, .string ⟨⟨[108, 100, 119]⟩⟩, .int .u8 3, .int .u8 3, .slice (some ⟨25, 0, none⟩) 3 4611686018427387909, .int .u8 22, .string ⟨⟨[108, 100, 104]⟩⟩, .int .u8 3, .int .u8 3, .slice (some ⟨24, 0, none⟩) 3 4611686018427387909, .int .u8 23, .string ⟨⟨[108, 100, 98]⟩⟩, .int .u8 3, .int .u8 3, .slice (some ⟨23, 0, none⟩) 3 4611686018427387909, .int .u8 24, .string ⟨⟨[115, 116, 119]⟩⟩, .int .u8 4, .int .u8 1, .slice (some ⟨22, 0, none⟩) 4 4611686018427387909, .int .u8 25, .string ⟨⟨[115, 116, 104]⟩⟩, .int .u8 4, .int .u8 1, .slice (some ⟨21, 0, none⟩) 4 4611686018427387909, .int .u8 26, .string ⟨⟨[115, 116, 98]⟩⟩, .int .u8 4, .int .u8 1, .slice (some ⟨20, 0, none⟩) 4 4611686018427387909, .int .u8 27, .string ⟨⟨[106, 117, 109, 112]⟩⟩, .int .u8 5, .int .u8 12, .slice (some ⟨19, 0, none⟩) 3 4611686018427387909, .int .u8 28, .string ⟨⟨[106, 117, 109, 112, 114]⟩⟩, .int .u8 5, .int .u8 12, .slice (some ⟨18, 0, none⟩) 3 4611686018427387909, .int .u8 29, .string ⟨⟨[99, 97, 108, 108]⟩⟩, .int .u8 5, .int .u8 12, .slice (some ⟨17, 0, none⟩) 1 4611686018427387909, .int .u8 30, .string ⟨⟨[108, 111, 111, 112, 105]⟩⟩, .int .u8 6, .int .u8 8, .slice (some ⟨16, 0, none⟩) 3 4611686018427387909, .int .u8 31, .string ⟨⟨[108, 111, 111, 112, 114]⟩⟩, .int .u8 6, .int .u8 8, .slice (some ⟨15, 0, none⟩) 3 4611686018427387909] 224 true none 0]
set_option maxRecDepth 1000000 in
theorem r1 (ts : Nat → Nat) : sumUpF E0 100000000 272 a1 (tplK ts K) [313, 304, 295, 290, 281, 272, 261, 250, 239, 230, 221, 212, 203, 194, 185, 176, 167, 158, 147, 138, 129, 120, 111, 100, 89, 80, 67, 54, 41, 28, 314] = some (v1, b1) := by kernel_rfl
def a2 : List Value := [.string ⟨⟨[49]⟩⟩]
def v2 : Value := .tuple ⟨[.int .i64 1, .int .i64 0]⟩
def b2 : List Blk := []
set_option maxRecDepth 1000000 in
theorem r2 (ts : Nat → Nat) : sumUpF E0 100000000 286 a2 (tplK ts K) [] = some (v2, b2) := by kernel_rfl
def a3 : List Value := [.string ⟨⟨[53]⟩⟩]
def v3 : Value := .tuple ⟨[.int .i64 5, .int .i64 0]⟩
def b3 : List Blk := []
set_option maxRecDepth 1000000 in
theorem r3 (ts : Nat → Nat) : sumUpF E0 100000000 286 a3 (tplK ts K) [] = some (v3, b3) := by kernel_rfl
def a4 : List Value := [.string ⟨⟨[114, 49]⟩⟩, .string ⟨⟨[112]⟩⟩, .int .i64 4]
def v4 : Value := .tuple ⟨[.int .u8 0, .bool false]⟩
def b4 : List Blk := []
set_option maxRecDepth 1000000 in
theorem r4 (ts : Nat → Nat) : sumUpF E0 100000000 352 a4 (tplK ts K) [] = some (v4, b4) := by kernel_rfl
def a5 : List Value := [.string ⟨⟨[114, 49]⟩⟩, .string ⟨⟨[114]⟩⟩, .int .i64 32]
def v5 : Value := .tuple ⟨[.int .u8 1, .bool true]⟩
def b5 : List Blk := []
set_option maxRecDepth 1000000 in
theorem r5 (ts : Nat → Nat) : sumUpF E0 100000000 352 a5 (tplK ts K) [] = some (v5, b5) := by kernel_rfl
def a6 : List Value := [.string ⟨⟨[114, 50]⟩⟩, .string ⟨⟨[114]⟩⟩, .int .i64 32]
def v6 : Value := .tuple ⟨[.int .u8 2, .bool true]⟩
def b6 : List Blk := []
set_option maxRecDepth 1000000 in
theorem r6 (ts : Nat → Nat) : sumUpF E0 100000000 352 a6 (tplK ts K) [] = some (v6, b6) := by kernel_rfl
def a7 : List Value := [.string ⟨⟨[]⟩⟩, .string ⟨⟨[114]⟩⟩, .int .i64 32]
def v7 : Value := .tuple ⟨[.int .u8 0, .bool false]⟩
def b7 : List Blk := []
set_option maxRecDepth 1000000 in
theorem r7 (ts : Nat → Nat) : sumUpF E0 100000000 352 a7 (tplK ts K) [] = some (v7, b7) := by kernel_rfl
def a8 : List Value := [.string ⟨⟨[106, 117, 109, 112]⟩⟩]
def v8 : Value := .tuple ⟨[.int .i64 0, .iface 520 (.pointer (some ⟨15, 0, none⟩))]⟩
def b8 : List Blk := [.cells [.string ⟨⟨[65, 116, 111, 105]⟩⟩, .string ⟨⟨[106, 117, 109, 112]⟩⟩, .iface 538 (.pointer (some ⟨13, 0, none⟩))] 532 true none 0]
set_option maxRecDepth 1000000 in
theorem r8 (ts : Nat → Nat) : sumUpF E0 100000000 377 a8 (tplK ts K) [16] = some (v8, b8) := by kernel_rfl
def a9 : List Value := [.string ⟨⟨[108, 111, 111, 112, 48]⟩⟩]
def v9 : Value := .tuple ⟨[.int .i64 0, .iface 520 (.pointer (some ⟨15, 0, none⟩))]⟩
def b9 : List Blk := [.cells [.string ⟨⟨[65, 116, 111, 105]⟩⟩, .string ⟨⟨[108, 111, 111, 112, 48]⟩⟩, .iface 538 (.pointer (some ⟨13, 0, none⟩))] 532 true none 0]
set_option maxRecDepth 1000000 in
theorem r9 (ts : Nat → Nat) : sumUpF E0 100000000 377 a9 (tplK ts K) [16] = some (v9, b9) := by kernel_rfl
def a10 : List Value := [.string ⟨⟨[110, 111, 112]⟩⟩]
def v10 : Value := .tuple ⟨[.int .i64 0, .iface 520 (.pointer (some ⟨15, 0, none⟩))]⟩
def b10 : List Blk := [.cells [.string ⟨⟨[65, 116, 111, 105]⟩⟩, .string ⟨⟨[110, 111, 112]⟩⟩, .iface 538 (.pointer (some ⟨13, 0, none⟩))] 532 true none 0]
set_option maxRecDepth 1000000 in
theorem r10 (ts : Nat → Nat) : sumUpF E0 100000000 377 a10 (tplK ts K) [16] = some (v10, b10) := by kernel_rfl
def a11 : List Value := [.string ⟨⟨[116, 111, 112]⟩⟩]
def v11 : Value := .tuple ⟨[.int .i64 0, .iface 520 (.pointer (some ⟨15, 0, none⟩))]⟩
def b11 : List Blk := [.cells [.string ⟨⟨[65, 116, 111, 105]⟩⟩, .string ⟨⟨[116, 111, 112]⟩⟩, .iface 538 (.pointer (some ⟨13, 0, none⟩))] 532 true none 0]
set_option maxRecDepth 1000000 in
theorem r11 (ts : Nat → Nat) : sumUpF E0 100000000 377 a11 (tplK ts K) [16] = some (v11, b11) := by kernel_rfl
def a12 : List Value := [.string ⟨⟨[116, 97, 105, 108]⟩⟩]
def v12 : Value := .tuple ⟨[.int .i64 0, .iface 520 (.pointer (some ⟨15, 0, none⟩))]⟩
def b12 : List Blk := [.cells [.string ⟨⟨[65, 116, 111, 105]⟩⟩, .string ⟨⟨[116, 97, 105, 108]⟩⟩, .iface 538 (.pointer (some ⟨13, 0, none⟩))] 532 true none 0]
set_option maxRecDepth 1000000 in
theorem r12 (ts : Nat → Nat) : sumUpF E0 100000000 377 a12 (tplK ts K) [16] = some (v12, b12) := by kernel_rfl
def a13 : List Value := [.string ⟨⟨[46, 101, 113, 117]⟩⟩]
def v13 : Value := .tuple ⟨[.int .i64 0, .iface 520 (.pointer (some ⟨15, 0, none⟩))]⟩
def b13 : List Blk := [.cells [.string ⟨⟨[65, 116, 111, 105]⟩⟩, .string ⟨⟨[46, 101, 113, 117]⟩⟩, .iface 538 (.pointer (some ⟨13, 0, none⟩))] 532 true none 0]
set_option maxRecDepth 1000000 in
theorem r13 (ts : Nat → Nat) : sumUpF E0 100000000 377 a13 (tplK ts K) [16] = some (v13, b13) := by kernel_rfl
def a14 : List Value := [.string ⟨⟨[46, 111, 114, 103]⟩⟩]
def v14 : Value := .tuple ⟨[.int .i64 0, .iface 520 (.pointer (some ⟨15, 0, none⟩))]⟩
def b14 : List Blk := [.cells [.string ⟨⟨[65, 116, 111, 105]⟩⟩, .string ⟨⟨[46, 111, 114, 103]⟩⟩, .iface 538 (.pointer (some ⟨13, 0, none⟩))] 532 true none 0]
set_option maxRecDepth 1000000 in
theorem r14 (ts : Nat → Nat) : sumUpF E0 100000000 377 a14 (tplK ts K) [16] = some (v14, b14) := by kernel_rfl
def a15 : List Value := [.string ⟨⟨[46, 119, 111, 114, 100]⟩⟩]
def v15 : Value := .tuple ⟨[.int .i64 0, .iface 520 (.pointer (some ⟨15, 0, none⟩))]⟩
def b15 : List Blk := [.cells [.string ⟨⟨[65, 116, 111, 105]⟩⟩, .string ⟨⟨[46, 119, 111, 114, 100]⟩⟩, .iface 538 (.pointer (some ⟨13, 0, none⟩))] 532 true none 0]
set_option maxRecDepth 1000000 in
theorem r15 (ts : Nat → Nat) : sumUpF E0 100000000 377 a15 (tplK ts K) [16] = some (v15, b15) := by kernel_rfl
def a16 : List Value := [.string ⟨⟨[46, 97, 108, 105, 103, 110]⟩⟩]
def v16 : Value := .tuple ⟨[.int .i64 0, .iface 520 (.pointer (some ⟨15, 0, none⟩))]⟩
def b16 : List Blk := [.cells [.string ⟨⟨[65, 116, 111, 105]⟩⟩, .string ⟨⟨[46, 97, 108, 105, 103, 110]⟩⟩, .iface 538 (.pointer (some ⟨13, 0, none⟩))] 532 true none 0]
set_option maxRecDepth 1000000 in
theorem r16 (ts : Nat → Nat) : sumUpF E0 100000000 377 a16 (tplK ts K) [16] = some (v16, b16) := by kernel_rfl
def a17 : List Value := [.string ⟨⟨[46, 98, 121, 116, 101]⟩⟩]
def v17 : Value := .tuple ⟨[.int .i64 0, .iface 520 (.pointer (some ⟨15, 0, none⟩))]⟩
def b17 : List Blk := [.cells [.string ⟨⟨[65, 116, 111, 105]⟩⟩, .string ⟨⟨[46, 98, 121, 116, 101]⟩⟩, .iface 538 (.pointer (some ⟨13, 0, none⟩))] 532 true none 0]
set_option maxRecDepth 1000000 in
theorem r17 (ts : Nat → Nat) : sumUpF E0 100000000 377 a17 (tplK ts K) [16] = some (v17, b17) := by kernel_rfl
def a18 : List Value := [.string ⟨⟨[78]⟩⟩]
def v18 : Value := .tuple ⟨[.int .i64 0, .iface 520 (.pointer (some ⟨15, 0, none⟩))]⟩
def b18 : List Blk := [.cells [.string ⟨⟨[65, 116, 111, 105]⟩⟩, .string ⟨⟨[78]⟩⟩, .iface 538 (.pointer (some ⟨13, 0, none⟩))] 532 true none 0]
set_option maxRecDepth 1000000 in
theorem r18 (ts : Nat → Nat) : sumUpF E0 100000000 377 a18 (tplK ts K) [16] = some (v18, b18) := by kernel_rfl
end Go.Proofs.YtjhicjgclbapkaaGreatDoor
