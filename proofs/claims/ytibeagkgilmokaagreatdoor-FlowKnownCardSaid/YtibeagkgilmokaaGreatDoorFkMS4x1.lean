import Derived.Test.YtibeagkgilmokaaGreatDoorFkML3
namespace Go.Proofs.YtibeagkgilmokaaGreatDoor
open Go.Dv
def a64 : List Value := [.string ⟨⟨[110, 111, 112, 10, 76, 58, 32, 106, 117, 109, 112, 32, 76, 10, 110, 111, 112, 10]⟩⟩]
def v64 : Value := .tuple ⟨[.slice (some ⟨18, 0, none⟩) 4 4611686018427387913, .slice none 0 0]⟩
def b64 : List Blk := [.cells [.int .u8 1, .int .u8 0, .int .u8 0, .int .u8 0, .int .u8 0, .int .u8 0, .int .u8 0, .bool false, .bool false, .int .u16 0, .int .i64 0, .slice none 0 0, .slice none 0 0, .bool false, .int .i64 3, .int .i64 1] 157 true none 0, .cells [.int .u8 2, .int .i64 0, .string ⟨⟨[76]⟩⟩, .int .i64 0, .int .i64 0] 149 true none 0, .cells [.int .u8 27, .int .u8 0, .int .u8 0, .int .u8 0, .int .u8 0, .int .u8 0, .int .u8 0, .bool false, .bool false, .int .u16 0, .int .i64 0, .slice (some ⟨15, 0, none⟩) 1 4611686018427387909, .slice none 0 0, .bool false, .int .i64 2, .int .i64 4] 157 true none 0, .cells [.int .u8 1, .int .u8 0, .int .u8 0, .int .u8 0, .int .u8 0, .int .u8 0, .int .u8 0, .bool false, .bool false, .int .u16 0, .int .i64 0, .slice none 0 0, .slice none 0 0, .bool false, .int .i64 1, .int .i64 1] 157 true none 0, .cells [.int .u8 2, .string ⟨⟨[]⟩⟩, .slice none 0 0, .slice (some ⟨17, 0, none⟩) 1 1, .bool false, .bool false, .bool false, .int .i64 1, .int .i64 1, .int .u8 1, .string ⟨⟨[76]⟩⟩, .slice none 0 0, .slice none 0 0, .bool false, .bool false, .bool false, .int .i64 2, .int .i64 1, .int .u8 2, .string ⟨⟨[]⟩⟩, .slice none 0 0, .slice (some ⟨16, 0, none⟩) 1 1, .bool false, .bool false, .bool false, .int .i64 2, .int .i64 4, .int .u8 2, .string ⟨⟨[]⟩⟩, .slice none 0 0, .slice (some ⟨14, 0, none⟩) 1 1, .bool false, .bool false, .bool false, .int .i64 3, .int .i64 1] 70 true none 0]
set_option maxRecDepth 1000000 in
theorem r64 (ts : Nat → Nat) : sumUpF E3 100000000 17 a64 (tplK ts K) [145, 110, 111, 44, 149] = some (v64, b64) := by kernel_rfl
def a65 : List Value := [.string ⟨⟨[99, 97, 108, 108, 32, 56, 10, 110, 111, 112, 10, 46, 115, 101, 99, 116, 105, 111, 110, 32, 100, 97, 116, 97, 10, 46, 119, 111, 114, 100, 32, 48, 10, 46, 115, 101, 99, 116, 105, 111, 110, 32, 99, 111, 100, 101, 10, 110, 111, 112]⟩⟩]
def v65 : Value := .tuple ⟨[.slice (some ⟨20, 0, none⟩) 6 4611686018427387913, .slice none 0 0]⟩
def b65 : List Blk := [.cells [.int .u8 1, .int .u8 0, .int .u8 0, .int .u8 0, .int .u8 0, .int .u8 0, .int .u8 0, .bool false, .bool false, .int .u16 0, .int .i64 0, .slice none 0 0, .slice none 0 0, .bool false, .int .i64 6, .int .i64 1] 157 true none 0, .cells [.int .u8 1, .int .i64 0, .string ⟨⟨[]⟩⟩, .int .i64 0, .int .i64 0] 149 true none 0, .cells [.slice (some ⟨15, 0, none⟩) 1 4611686018427387909] 143 true none 0, .cells [.int .u8 1, .int .u8 0, .int .u8 0, .int .u8 0, .int .u8 0, .int .u8 0, .int .u8 0, .bool false, .bool false, .int .u16 0, .int .i64 0, .slice none 0 0, .slice none 0 0, .bool false, .int .i64 2, .int .i64 1] 157 true none 0, .cells [.int .u8 1, .int .i64 8, .string ⟨⟨[]⟩⟩, .int .i64 0, .int .i64 0] 149 true none 0, .cells [.int .u8 29, .int .u8 0, .int .u8 0, .int .u8 0, .int .u8 0, .int .u8 0, .int .u8 0, .bool false, .bool false, .int .u16 0, .int .i64 0, .slice (some ⟨18, 0, none⟩) 1 4611686018427387909, .slice none 0 0, .bool false, .int .i64 1, .int .i64 1] 157 true none 0, .cells [.int .u8 2, .string ⟨⟨[]⟩⟩, .slice none 0 0, .slice (some ⟨19, 0, none⟩) 1 1, .bool false, .bool false, .bool false, .int .i64 1, .int .i64 1, .int .u8 2, .string ⟨⟨[]⟩⟩, .slice none 0 0, .slice (some ⟨17, 0, none⟩) 1 1, .bool false, .bool false, .bool false, .int .i64 2, .int .i64 1, .int .u8 9, .string ⟨⟨[100, 97, 116, 97]⟩⟩, .slice none 0 0, .slice none 0 0, .bool false, .bool false, .bool false, .int .i64 3, .int .i64 1, .int .u8 5, .string ⟨⟨[]⟩⟩, .slice (some ⟨16, 0, none⟩) 1 4611686018427387905, .slice none 0 0, .bool false, .bool false, .bool false, .int .i64 4, .int .i64 1, .int .u8 9, .string ⟨⟨[99, 111, 100, 101]⟩⟩, .slice none 0 0, .slice none 0 0, .bool false, .bool false, .bool false, .int .i64 5, .int .i64 1, .int .u8 2, .string ⟨⟨[]⟩⟩, .slice none 0 0, .slice (some ⟨14, 0, none⟩) 1 1, .bool false, .bool false, .bool false, .int .i64 6, .int .i64 1] 70 true none 0]
set_option maxRecDepth 1000000 in
theorem r65 (ts : Nat → Nat) : sumUpF E3 100000000 17 a65 (tplK ts K) [194, 143, 144, 94, 59, 60, 198] = some (v65, b65) := by kernel_rfl
def a66 : List Value := [.int .u8 1]
def v66 : Value := .bool false
def b66 : List Blk := []
set_option maxRecDepth 1000000 in
theorem r66 (ts : Nat → Nat) : sumUpF E3 100000000 62 a66 (tplK ts K) [] = some (v66, b66) := by kernel_rfl
def a67 : List Value := [.int .u8 27]
def v67 : Value := .tuple ⟨[.agg ⟨[.int .u8 10, .int .i64 19, .int .i64 2, .bool true, .bool true]⟩, .bool true]⟩
def b67 : List Blk := []
set_option maxRecDepth 1000000 in
theorem r67 (ts : Nat → Nat) : sumUpF E3 100000000 111 a67 (tplK ts K) [] = some (v67, b67) := by kernel_rfl
def a68 : List Value := [.int .u8 29]
def v68 : Value := .tuple ⟨[.agg ⟨[.int .u8 10, .int .i64 24, .int .i64 2, .bool true, .bool true]⟩, .bool true]⟩
def b68 : List Blk := []
set_option maxRecDepth 1000000 in
theorem r68 (ts : Nat → Nat) : sumUpF E3 100000000 111 a68 (tplK ts K) [] = some (v68, b68) := by kernel_rfl
def a69 : List Value := [.int .u8 30]
def v69 : Value := .tuple ⟨[.agg ⟨[.int .u8 10, .int .i64 12, .int .i64 2, .bool true, .bool true]⟩, .bool true]⟩
def b69 : List Blk := []
set_option maxRecDepth 1000000 in
theorem r69 (ts : Nat → Nat) : sumUpF E3 100000000 111 a69 (tplK ts K) [] = some (v69, b69) := by kernel_rfl
def a70 : List Value := [.int .u8 27]
def v70 : Value := .bool true
def b70 : List Blk := []
set_option maxRecDepth 1000000 in
theorem r70 (ts : Nat → Nat) : sumUpF E3 100000000 112 a70 (tplK ts K) [] = some (v70, b70) := by kernel_rfl
def a71 : List Value := [.int .u8 30]
def v71 : Value := .bool true
def b71 : List Blk := []
set_option maxRecDepth 1000000 in
theorem r71 (ts : Nat → Nat) : sumUpF E3 100000000 112 a71 (tplK ts K) [] = some (v71, b71) := by kernel_rfl
def a72 : List Value := [.agg ⟨[.int .u8 1, .int .u8 0, .int .u8 0, .int .u8 0, .int .u8 0, .int .u8 0, .int .u8 0, .bool false, .bool false, .int .u16 0, .int .i64 0]⟩]
def v72 : Value := .bool true
def b72 : List Blk := []
set_option maxRecDepth 1000000 in
theorem r72 (ts : Nat → Nat) : sumUpF E3 100000000 171 a72 (tplK ts K) [] = some (v72, b72) := by kernel_rfl
def a73 : List Value := [.agg ⟨[.int .u8 27, .int .u8 0, .int .u8 0, .int .u8 0, .int .u8 0, .int .u8 0, .int .u8 0, .bool false, .bool false, .int .u16 0, .int .i64 4]⟩]
def v73 : Value := .bool true
def b73 : List Blk := []
set_option maxRecDepth 1000000 in
theorem r73 (ts : Nat → Nat) : sumUpF E3 100000000 171 a73 (tplK ts K) [] = some (v73, b73) := by kernel_rfl
def a74 : List Value := [.agg ⟨[.int .u8 27, .int .u8 0, .int .u8 0, .int .u8 0, .int .u8 0, .int .u8 0, .int .u8 1, .bool false, .bool false, .int .u16 0, .int .i64 16]⟩]
def v74 : Value := .bool true
def b74 : List Blk := []
set_option maxRecDepth 1000000 in
theorem r74 (ts : Nat → Nat) : sumUpF E3 100000000 171 a74 (tplK ts K) [] = some (v74, b74) := by kernel_rfl
def a75 : List Value := [.agg ⟨[.int .u8 28, .int .u8 0, .int .u8 31, .int .u8 0, .int .u8 0, .int .u8 0, .int .u8 0, .bool false, .bool false, .int .u16 0, .int .i64 0]⟩]
def v75 : Value := .bool true
def b75 : List Blk := []
set_option maxRecDepth 1000000 in
theorem r75 (ts : Nat → Nat) : sumUpF E3 100000000 171 a75 (tplK ts K) [] = some (v75, b75) := by kernel_rfl
def a76 : List Value := [.agg ⟨[.int .u8 29, .int .u8 0, .int .u8 0, .int .u8 0, .int .u8 0, .int .u8 0, .int .u8 0, .bool false, .bool false, .int .u16 0, .int .i64 8]⟩]
def v76 : Value := .bool true
def b76 : List Blk := []
set_option maxRecDepth 1000000 in
theorem r76 (ts : Nat → Nat) : sumUpF E3 100000000 171 a76 (tplK ts K) [] = some (v76, b76) := by kernel_rfl
def a77 : List Value := [.agg ⟨[.int .u8 30, .int .u8 0, .int .u8 0, .int .u8 0, .int .u8 0, .int .u8 0, .int .u8 0, .bool false, .bool false, .int .u16 3, .int .i64 4]⟩]
def v77 : Value := .bool true
def b77 : List Blk := []
set_option maxRecDepth 1000000 in
theorem r77 (ts : Nat → Nat) : sumUpF E3 100000000 171 a77 (tplK ts K) [] = some (v77, b77) := by kernel_rfl
def a78 : List Value := [.agg ⟨[.int .u8 1, .int .u8 0, .int .u8 0, .int .u8 0, .int .u8 0, .int .u8 0, .int .u8 0, .bool false, .bool false, .int .u16 0, .int .i64 0]⟩]
def v78 : Value := .int .u8 1
def b78 : List Blk := []
set_option maxRecDepth 1000000 in
theorem r78 (ts : Nat → Nat) : sumUpF E3 100000000 200 a78 (tplK ts K) [] = some (v78, b78) := by kernel_rfl
def a79 : List Value := [.agg ⟨[.int .u8 27, .int .u8 0, .int .u8 0, .int .u8 0, .int .u8 0, .int .u8 0, .int .u8 0, .bool false, .bool false, .int .u16 0, .int .i64 4]⟩]
def v79 : Value := .int .u8 5
def b79 : List Blk := []
set_option maxRecDepth 1000000 in
theorem r79 (ts : Nat → Nat) : sumUpF E3 100000000 200 a79 (tplK ts K) [] = some (v79, b79) := by kernel_rfl
def a80 : List Value := [.agg ⟨[.int .u8 27, .int .u8 0, .int .u8 0, .int .u8 0, .int .u8 0, .int .u8 0, .int .u8 1, .bool false, .bool false, .int .u16 0, .int .i64 16]⟩]
def v80 : Value := .int .u8 5
def b80 : List Blk := []
set_option maxRecDepth 1000000 in
theorem r80 (ts : Nat → Nat) : sumUpF E3 100000000 200 a80 (tplK ts K) [] = some (v80, b80) := by kernel_rfl
def a81 : List Value := [.agg ⟨[.int .u8 28, .int .u8 0, .int .u8 31, .int .u8 0, .int .u8 0, .int .u8 0, .int .u8 0, .bool false, .bool false, .int .u16 0, .int .i64 0]⟩]
def v81 : Value := .int .u8 5
def b81 : List Blk := []
set_option maxRecDepth 1000000 in
theorem r81 (ts : Nat → Nat) : sumUpF E3 100000000 200 a81 (tplK ts K) [] = some (v81, b81) := by kernel_rfl
def a82 : List Value := [.agg ⟨[.int .u8 29, .int .u8 0, .int .u8 0, .int .u8 0, .int .u8 0, .int .u8 0, .int .u8 0, .bool false, .bool false, .int .u16 0, .int .i64 8]⟩]
def v82 : Value := .int .u8 5
def b82 : List Blk := []
set_option maxRecDepth 1000000 in
theorem r82 (ts : Nat → Nat) : sumUpF E3 100000000 200 a82 (tplK ts K) [] = some (v82, b82) := by kernel_rfl
def a83 : List Value := [.agg ⟨[.int .u8 30, .int .u8 0, .int .u8 0, .int .u8 0, .int .u8 0, .int .u8 0, .int .u8 0, .bool false, .bool false, .int .u16 3, .int .i64 4]⟩]
def v83 : Value := .int .u8 6
def b83 : List Blk := []
set_option maxRecDepth 1000000 in
theorem r83 (ts : Nat → Nat) : sumUpF E3 100000000 200 a83 (tplK ts K) [] = some (v83, b83) := by kernel_rfl
end Go.Proofs.YtibeagkgilmokaaGreatDoor
