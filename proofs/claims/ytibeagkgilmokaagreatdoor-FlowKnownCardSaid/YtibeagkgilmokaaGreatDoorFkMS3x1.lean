import Derived.Test.YtibeagkgilmokaaGreatDoorFkML2
namespace Go.Proofs.YtibeagkgilmokaaGreatDoor
open Go.Dv
def a47 : List Value := [.string ⟨⟨[108, 111, 111, 112, 48, 40, 65, 44, 32, 35, 51, 41, 10, 65, 58, 32, 123, 32, 110, 111, 112, 10, 32, 110, 111, 112, 32, 125, 32, 58, 101, 110, 100, 108, 111, 111, 112, 48, 10, 106, 117, 109, 112, 114, 32, 114, 51, 49, 10]⟩⟩]
def v47 : Value := .tuple ⟨[.slice (some ⟨19, 0, none⟩) 4 4611686018427387913, .slice none 0 0]⟩
def b47 : List Blk := [.cells [.int .u8 28, .int .u8 0, .int .u8 31, .int .u8 0, .int .u8 0, .int .u8 0, .int .u8 0, .bool false, .bool false, .int .u16 0, .int .i64 0, .slice none 0 0, .slice none 0 0, .bool false, .int .i64 4, .int .i64 1] 157 true none 0, .cells [.int .u8 1, .int .u8 0, .int .u8 0, .int .u8 0, .int .u8 0, .int .u8 0, .int .u8 0, .bool false, .bool false, .int .u16 0, .int .i64 0, .slice none 0 0, .slice none 0 0, .bool false, .int .i64 2, .int .i64 6, .int .u8 1, .int .u8 0, .int .u8 0, .int .u8 0, .int .u8 0, .int .u8 0, .int .u8 0, .bool false, .bool false, .int .u16 0, .int .i64 0, .slice none 0 0, .slice none 0 0, .bool false, .int .i64 3, .int .i64 2] 157 true none 0, .cells [.int .u8 1, .int .i64 3, .string ⟨⟨[]⟩⟩, .int .i64 0, .int .i64 0] 149 true none 0, .cells [.int .u8 2, .int .i64 0, .string ⟨⟨[65]⟩⟩, .int .i64 0, .int .i64 0] 149 true none 0, .cells [.int .u8 30, .int .u8 0, .int .u8 0, .int .u8 0, .int .u8 0, .int .u8 0, .int .u8 0, .bool false, .bool false, .int .u16 0, .int .i64 0, .slice (some ⟨17, 0, none⟩) 1 4611686018427387909, .slice (some ⟨16, 0, none⟩) 1 4611686018427387909, .bool false, .int .i64 1, .int .i64 1] 157 true none 0, .cells [.int .u8 2, .string ⟨⟨[]⟩⟩, .slice none 0 0, .slice (some ⟨18, 0, none⟩) 1 1, .bool false, .bool false, .bool false, .int .i64 1, .int .i64 1, .int .u8 1, .string ⟨⟨[65]⟩⟩, .slice none 0 0, .slice none 0 0, .bool false, .bool false, .bool false, .int .i64 2, .int .i64 1, .int .u8 2, .string ⟨⟨[]⟩⟩, .slice none 0 0, .slice (some ⟨15, 0, none⟩) 2 4611686018427387920, .bool true, .bool false, .bool false, .int .i64 2, .int .i64 4, .int .u8 2, .string ⟨⟨[]⟩⟩, .slice none 0 0, .slice (some ⟨14, 0, none⟩) 1 1, .bool false, .bool false, .bool false, .int .i64 4, .int .i64 1] 70 true none 0]
set_option maxRecDepth 1000000 in
theorem r47 (ts : Nat → Nat) : sumUpF E2 100000000 17 a47 (tplK ts K) [221, 170, 81, 62, 85, 225] = some (v47, b47) := by kernel_rfl
def a48 : List Value := [.int .u8 1]
def v48 : Value := .tuple ⟨[.agg ⟨[.int .u8 0, .int .i64 0, .int .i64 0, .bool false, .bool false]⟩, .bool false]⟩
def b48 : List Blk := []
set_option maxRecDepth 1000000 in
theorem r48 (ts : Nat → Nat) : sumUpF E2 100000000 111 a48 (tplK ts K) [] = some (v48, b48) := by kernel_rfl
def a49 : List Value := [.int .u8 28]
def v49 : Value := .tuple ⟨[.agg ⟨[.int .u8 0, .int .i64 0, .int .i64 0, .bool false, .bool false]⟩, .bool false]⟩
def b49 : List Blk := []
set_option maxRecDepth 1000000 in
theorem r49 (ts : Nat → Nat) : sumUpF E2 100000000 111 a49 (tplK ts K) [] = some (v49, b49) := by kernel_rfl
def a50 : List Value := [.string ⟨⟨[110, 111, 112]⟩⟩]
def v50 : Value := .bool true
def b50 : List Blk := []
set_option maxRecDepth 1000000 in
theorem r50 (ts : Nat → Nat) : sumUpF E2 100000000 138 a50 (tplK ts K) [] = some (v50, b50) := by kernel_rfl
def a51 : List Value := [.int .u8 27, .int .u8 10]
def v51 : Value := .tuple ⟨[.agg ⟨[.int .u8 10, .int .i64 19, .int .i64 2, .bool true, .bool true]⟩, .int .i64 0, .bool true]⟩
def b51 : List Blk := []
set_option maxRecDepth 1000000 in
theorem r51 (ts : Nat → Nat) : sumUpF E2 100000000 145 a51 (tplK ts K) [] = some (v51, b51) := by kernel_rfl
def a52 : List Value := [.int .u8 27, .int .u8 1]
def v52 : Value := .tuple ⟨[.agg ⟨[.int .u8 1, .int .i64 3, .int .i64 0, .bool false, .bool false]⟩, .int .i64 21, .bool true]⟩
def b52 : List Blk := []
set_option maxRecDepth 1000000 in
theorem r52 (ts : Nat → Nat) : sumUpF E2 100000000 145 a52 (tplK ts K) [] = some (v52, b52) := by kernel_rfl
def a53 : List Value := [.int .u8 27, .int .u8 2]
def v53 : Value := .tuple ⟨[.agg ⟨[.int .u8 2, .int .i64 2, .int .i64 0, .bool false, .bool false]⟩, .int .i64 19, .bool true]⟩
def b53 : List Blk := []
set_option maxRecDepth 1000000 in
theorem r53 (ts : Nat → Nat) : sumUpF E2 100000000 145 a53 (tplK ts K) [] = some (v53, b53) := by kernel_rfl
def a54 : List Value := [.int .u8 28, .int .u8 1]
def v54 : Value := .tuple ⟨[.agg ⟨[.int .u8 1, .int .i64 3, .int .i64 0, .bool false, .bool false]⟩, .int .i64 21, .bool true]⟩
def b54 : List Blk := []
set_option maxRecDepth 1000000 in
theorem r54 (ts : Nat → Nat) : sumUpF E2 100000000 145 a54 (tplK ts K) [] = some (v54, b54) := by kernel_rfl
def a55 : List Value := [.int .u8 28, .int .u8 5]
def v55 : Value := .tuple ⟨[.agg ⟨[.int .u8 5, .int .i64 5, .int .i64 0, .bool false, .bool false]⟩, .int .i64 14, .bool true]⟩
def b55 : List Blk := []
set_option maxRecDepth 1000000 in
theorem r55 (ts : Nat → Nat) : sumUpF E2 100000000 145 a55 (tplK ts K) [] = some (v55, b55) := by kernel_rfl
def a56 : List Value := [.int .u8 29, .int .u8 10]
def v56 : Value := .tuple ⟨[.agg ⟨[.int .u8 10, .int .i64 24, .int .i64 2, .bool true, .bool true]⟩, .int .i64 0, .bool true]⟩
def b56 : List Blk := []
set_option maxRecDepth 1000000 in
theorem r56 (ts : Nat → Nat) : sumUpF E2 100000000 145 a56 (tplK ts K) [] = some (v56, b56) := by kernel_rfl
def a57 : List Value := [.int .u8 30, .int .u8 10]
def v57 : Value := .tuple ⟨[.agg ⟨[.int .u8 10, .int .i64 12, .int .i64 2, .bool true, .bool true]⟩, .int .i64 11, .bool true]⟩
def b57 : List Blk := []
set_option maxRecDepth 1000000 in
theorem r57 (ts : Nat → Nat) : sumUpF E2 100000000 145 a57 (tplK ts K) [] = some (v57, b57) := by kernel_rfl
def a58 : List Value := [.int .u8 30, .int .u8 11]
def v58 : Value := .tuple ⟨[.agg ⟨[.int .u8 11, .int .i64 11, .int .i64 0, .bool false, .bool false]⟩, .int .i64 0, .bool true]⟩
def b58 : List Blk := []
set_option maxRecDepth 1000000 in
theorem r58 (ts : Nat → Nat) : sumUpF E2 100000000 145 a58 (tplK ts K) [] = some (v58, b58) := by kernel_rfl
def a59 : List Value := [.int .u8 1]
def v59 : Value := .tuple ⟨[.agg ⟨[.int .u8 1, .string ⟨⟨[110, 111, 112]⟩⟩, .int .u8 1, .int .u8 15, .slice none 0 0]⟩, .bool true]⟩
def b59 : List Blk := []
set_option maxRecDepth 1000000 in
theorem r59 (ts : Nat → Nat) : sumUpF E2 100000000 150 a59 (tplK ts K) [] = some (v59, b59) := by kernel_rfl
def a60 : List Value := [.int .u8 27]
def v60 : Value := .tuple ⟨[.agg ⟨[.int .u8 27, .string ⟨⟨[106, 117, 109, 112]⟩⟩, .int .u8 5, .int .u8 12, .slice (some ⟨14, 0, none⟩) 3 4611686018427387909]⟩, .bool true]⟩
def b60 : List Blk := [.cells [.int .u8 1, .int .i64 3, .int .i64 0, .bool false, .bool false, .int .u8 2, .int .i64 2, .int .i64 0, .bool false, .bool false, .int .u8 10, .int .i64 19, .int .i64 2, .bool true, .bool true] 216 true none 0]
set_option maxRecDepth 1000000 in
theorem r60 (ts : Nat → Nat) : sumUpF E2 100000000 150 a60 (tplK ts K) [18] = some (v60, b60) := by kernel_rfl
def a61 : List Value := [.int .u8 28]
def v61 : Value := .tuple ⟨[.agg ⟨[.int .u8 28, .string ⟨⟨[106, 117, 109, 112, 114]⟩⟩, .int .u8 5, .int .u8 12, .slice (some ⟨14, 0, none⟩) 3 4611686018427387909]⟩, .bool true]⟩
def b61 : List Blk := [.cells [.int .u8 1, .int .i64 3, .int .i64 0, .bool false, .bool false, .int .u8 2, .int .i64 2, .int .i64 0, .bool false, .bool false, .int .u8 5, .int .i64 5, .int .i64 0, .bool false, .bool false] 216 true none 0]
set_option maxRecDepth 1000000 in
theorem r61 (ts : Nat → Nat) : sumUpF E2 100000000 150 a61 (tplK ts K) [18] = some (v61, b61) := by kernel_rfl
def a62 : List Value := [.int .u8 29]
def v62 : Value := .tuple ⟨[.agg ⟨[.int .u8 29, .string ⟨⟨[99, 97, 108, 108]⟩⟩, .int .u8 5, .int .u8 12, .slice (some ⟨14, 0, none⟩) 1 4611686018427387909]⟩, .bool true]⟩
def b62 : List Blk := [.cells [.int .u8 10, .int .i64 24, .int .i64 2, .bool true, .bool true] 216 true none 0]
set_option maxRecDepth 1000000 in
theorem r62 (ts : Nat → Nat) : sumUpF E2 100000000 150 a62 (tplK ts K) [18] = some (v62, b62) := by kernel_rfl
def a63 : List Value := [.int .u8 30]
def v63 : Value := .tuple ⟨[.agg ⟨[.int .u8 30, .string ⟨⟨[108, 111, 111, 112, 105]⟩⟩, .int .u8 6, .int .u8 8, .slice (some ⟨14, 0, none⟩) 3 4611686018427387909]⟩, .bool true]⟩
def b63 : List Blk := [.cells [.int .u8 7, .int .i64 1, .int .i64 0, .bool false, .bool false, .int .u8 10, .int .i64 12, .int .i64 2, .bool true, .bool true, .int .u8 11, .int .i64 11, .int .i64 0, .bool false, .bool false] 216 true none 0]
set_option maxRecDepth 1000000 in
theorem r63 (ts : Nat → Nat) : sumUpF E2 100000000 150 a63 (tplK ts K) [18] = some (v63, b63) := by kernel_rfl
end Go.Proofs.YtibeagkgilmokaaGreatDoor
