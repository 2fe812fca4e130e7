import Derived.Test.YtjhicjgclbapkaaGreatDoorAkML2
namespace Go.Proofs.YtjhicjgclbapkaaGreatDoor
open Go.Dv
def a35 : List Value := [.string ⟨⟨[46, 98, 121, 116, 101, 32, 49, 10, 46, 111, 114, 103, 32, 48, 120, 50, 48, 48, 48, 48, 48, 10, 46, 98, 121, 116, 101, 32, 49]⟩⟩]
def v35 : Value := .tuple ⟨[.slice (some ⟨21, 0, none⟩) 3 4611686018427387913, .slice none 0 0]⟩
def b35 : List Blk := [.cells [.int .u8 1, .int .i64 1, .string ⟨⟨[]⟩⟩, .int .i64 0, .int .i64 0] 268 true none 0, .cells [.slice (some ⟨15, 0, none⟩) 1 4611686018427387909] 262 true none 0, .cells [.int .u8 1, .int .i64 2097152, .string ⟨⟨[]⟩⟩, .int .i64 0, .int .i64 0] 268 true none 0, .cells [.slice (some ⟨17, 0, none⟩) 1 4611686018427387909] 262 true none 0, .cells [.int .u8 1, .int .i64 1, .string ⟨⟨[]⟩⟩, .int .i64 0, .int .i64 0] 268 true none 0, .cells [.slice (some ⟨19, 0, none⟩) 1 4611686018427387909] 262 true none 0, .cells [.int .u8 6, .string ⟨⟨[]⟩⟩, .slice (some ⟨20, 0, none⟩) 1 4611686018427387905, .slice none 0 0, .bool false, .bool false, .bool false, .int .i64 1, .int .i64 1, .int .u8 3, .string ⟨⟨[]⟩⟩, .slice (some ⟨18, 0, none⟩) 1 4611686018427387905, .slice none 0 0, .bool false, .bool false, .bool false, .int .i64 2, .int .i64 1, .int .u8 6, .string ⟨⟨[]⟩⟩, .slice (some ⟨16, 0, none⟩) 1 4611686018427387905, .slice none 0 0, .bool false, .bool false, .bool false, .int .i64 3, .int .i64 1] 90 true none 0]
set_option maxRecDepth 1000000 in
theorem r35 (ts : Nat → Nat) : sumUpF E2 100000000 32 a35 (tplK ts K) [98, 99, 72, 73, 38, 39, 103] = some (v35, b35) := by kernel_rfl
def a36 : List Value := [.int .u8 1]
def v36 : Value := .tuple ⟨[.agg ⟨[.int .u8 1, .string ⟨⟨[110, 111, 112]⟩⟩, .int .u8 1, .int .u8 15, .slice none 0 0]⟩, .bool true]⟩
def b36 : List Blk := []
set_option maxRecDepth 1000000 in
theorem r36 (ts : Nat → Nat) : sumUpF E2 100000000 110 a36 (tplK ts K) [] = some (v36, b36) := by kernel_rfl
def a37 : List Value := [.int .u8 30]
def v37 : Value := .tuple ⟨[.agg ⟨[.int .u8 30, .string ⟨⟨[108, 111, 111, 112, 105]⟩⟩, .int .u8 6, .int .u8 8, .slice (some ⟨15, 0, none⟩) 3 4611686018427387909]⟩, .bool true]⟩
def b37 : List Blk := [.cells [.int .u8 7, .int .i64 1, .int .i64 0, .bool false, .bool false, .int .u8 10, .int .i64 12, .int .i64 2, .bool true, .bool true, .int .u8 11, .int .i64 11, .int .i64 0, .bool false, .bool false] 315 true none 0]
set_option maxRecDepth 1000000 in
theorem r37 (ts : Nat → Nat) : sumUpF E2 100000000 110 a37 (tplK ts K) [19] = some (v37, b37) := by kernel_rfl
def a38 : List Value := [.int .u8 7]
def v38 : Value := .tuple ⟨[.agg ⟨[.int .u8 7, .string ⟨⟨[97, 100, 100, 105]⟩⟩, .int .u8 1, .int .u8 15, .slice (some ⟨15, 0, none⟩) 3 4611686018427387909]⟩, .bool true]⟩
def b38 : List Blk := [.cells [.int .u8 3, .int .i64 5, .int .i64 0, .bool false, .bool false, .int .u8 5, .int .i64 5, .int .i64 0, .bool false, .bool false, .int .u8 9, .int .i64 14, .int .i64 0, .bool true, .bool true] 315 true none 0]
set_option maxRecDepth 1000000 in
theorem r38 (ts : Nat → Nat) : sumUpF E2 100000000 110 a38 (tplK ts K) [19] = some (v38, b38) := by kernel_rfl
def a39 : List Value := [.int .u8 8]
def v39 : Value := .tuple ⟨[.agg ⟨[.int .u8 8, .string ⟨⟨[109, 111, 118, 105]⟩⟩, .int .u8 1, .int .u8 15, .slice (some ⟨15, 0, none⟩) 4 4611686018427387909]⟩, .bool true]⟩
def b39 : List Blk := [.cells [.int .u8 1, .int .i64 3, .int .i64 0, .bool false, .bool false, .int .u8 2, .int .i64 2, .int .i64 0, .bool false, .bool false, .int .u8 3, .int .i64 5, .int .i64 0, .bool false, .bool false, .int .u8 9, .int .i64 14, .int .i64 0, .bool true, .bool true] 315 true none 0]
set_option maxRecDepth 1000000 in
theorem r39 (ts : Nat → Nat) : sumUpF E2 100000000 110 a39 (tplK ts K) [19] = some (v39, b39) := by kernel_rfl
def a40 : List Value := [.int .u8 30, .int .u8 10]
def v40 : Value := .tuple ⟨[.agg ⟨[.int .u8 10, .int .i64 12, .int .i64 2, .bool true, .bool true]⟩, .int .i64 11, .bool true]⟩
def b40 : List Blk := []
set_option maxRecDepth 1000000 in
theorem r40 (ts : Nat → Nat) : sumUpF E2 100000000 193 a40 (tplK ts K) [] = some (v40, b40) := by kernel_rfl
def a41 : List Value := [.int .u8 7, .int .u8 9]
def v41 : Value := .tuple ⟨[.agg ⟨[.int .u8 9, .int .i64 14, .int .i64 0, .bool true, .bool true]⟩, .int .i64 0, .bool true]⟩
def b41 : List Blk := []
set_option maxRecDepth 1000000 in
theorem r41 (ts : Nat → Nat) : sumUpF E2 100000000 193 a41 (tplK ts K) [] = some (v41, b41) := by kernel_rfl
def a42 : List Value := [.int .u8 8, .int .u8 3]
def v42 : Value := .tuple ⟨[.agg ⟨[.int .u8 3, .int .i64 5, .int .i64 0, .bool false, .bool false]⟩, .int .i64 14, .bool true]⟩
def b42 : List Blk := []
set_option maxRecDepth 1000000 in
theorem r42 (ts : Nat → Nat) : sumUpF E2 100000000 193 a42 (tplK ts K) [] = some (v42, b42) := by kernel_rfl
def a43 : List Value := [.int .u8 8, .int .u8 9]
def v43 : Value := .tuple ⟨[.agg ⟨[.int .u8 9, .int .i64 14, .int .i64 0, .bool true, .bool true]⟩, .int .i64 0, .bool true]⟩
def b43 : List Blk := []
set_option maxRecDepth 1000000 in
theorem r43 (ts : Nat → Nat) : sumUpF E2 100000000 193 a43 (tplK ts K) [] = some (v43, b43) := by kernel_rfl
def a44 : List Value := [.int .u8 1]
def v44 : Value := .tuple ⟨[.agg ⟨[.int .u8 0, .int .i64 0, .int .i64 0, .bool false, .bool false]⟩, .bool false]⟩
def b44 : List Blk := []
set_option maxRecDepth 1000000 in
theorem r44 (ts : Nat → Nat) : sumUpF E2 100000000 233 a44 (tplK ts K) [] = some (v44, b44) := by kernel_rfl
end Go.Proofs.YtjhicjgclbapkaaGreatDoor
