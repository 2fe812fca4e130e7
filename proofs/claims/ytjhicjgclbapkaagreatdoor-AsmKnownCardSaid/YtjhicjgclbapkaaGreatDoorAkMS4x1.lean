import Derived.Test.YtjhicjgclbapkaaGreatDoorAkML3
namespace Go.Proofs.YtjhicjgclbapkaaGreatDoor
open Go.Dv
def a45 : List Value := [.string ⟨⟨[46, 98, 121, 116, 101, 32, 49, 10, 46, 111, 114, 103, 32, 48, 120, 50, 48, 48, 48, 48, 48, 10, 46, 98, 121, 116, 101, 32, 49]⟩⟩]
def v45 : Value := .tuple ⟨[.agg ⟨[.int .u32 0, .slice none 0 0, .slice none 0 0, .slice none 0 0, .slice none 0 0, .int .i64 0, .int .i64 0, .int .i64 0]⟩, .slice (some ⟨15, 0, none⟩) 1 1]⟩
def b45 : List Blk := [.cells [.int .i64 0, .int .i64 0, .int .i64 3] 86 true none 0]
set_option maxRecDepth 1000000 in
theorem r45 (ts : Nat → Nat) : sumUpF E3 100000000 31 a45 (tplK ts K) [193] = some (v45, b45) := by kernel_rfl
def a46 : List Value := [.agg ⟨[.int .u8 1, .int .u8 0, .int .u8 0, .int .u8 0, .int .u8 0, .int .u8 0, .int .u8 0, .bool false, .bool false, .int .u16 0, .int .i64 0]⟩]
def v46 : Value := .bool true
def b46 : List Blk := []
set_option maxRecDepth 1000000 in
theorem r46 (ts : Nat → Nat) : sumUpF E3 100000000 95 a46 (tplK ts K) [] = some (v46, b46) := by kernel_rfl
def a47 : List Value := [.agg ⟨[.int .u8 30, .int .u8 0, .int .u8 0, .int .u8 0, .int .u8 0, .int .u8 0, .int .u8 0, .bool false, .bool false, .int .u16 3, .int .i64 4]⟩]
def v47 : Value := .bool true
def b47 : List Blk := []
set_option maxRecDepth 1000000 in
theorem r47 (ts : Nat → Nat) : sumUpF E3 100000000 95 a47 (tplK ts K) [] = some (v47, b47) := by kernel_rfl
def a48 : List Value := [.agg ⟨[.int .u8 7, .int .u8 1, .int .u8 1, .int .u8 0, .int .u8 0, .int .u8 0, .int .u8 0, .bool false, .bool false, .int .u16 0, .int .i64 1]⟩]
def v48 : Value := .bool true
def b48 : List Blk := []
set_option maxRecDepth 1000000 in
theorem r48 (ts : Nat → Nat) : sumUpF E3 100000000 95 a48 (tplK ts K) [] = some (v48, b48) := by kernel_rfl
def a49 : List Value := [.agg ⟨[.int .u8 8, .int .u8 2, .int .u8 0, .int .u8 0, .int .u8 0, .int .u8 0, .int .u8 0, .bool false, .bool false, .int .u16 0, .int .i64 500]⟩]
def v49 : Value := .bool true
def b49 : List Blk := []
set_option maxRecDepth 1000000 in
theorem r49 (ts : Nat → Nat) : sumUpF E3 100000000 95 a49 (tplK ts K) [] = some (v49, b49) := by kernel_rfl
def a50 : List Value := [.int .u8 7]
def v50 : Value := .bool true
def b50 : List Blk := []
set_option maxRecDepth 1000000 in
theorem r50 (ts : Nat → Nat) : sumUpF E3 100000000 143 a50 (tplK ts K) [] = some (v50, b50) := by kernel_rfl
def a51 : List Value := [.int .u8 8]
def v51 : Value := .bool true
def b51 : List Blk := []
set_option maxRecDepth 1000000 in
theorem r51 (ts : Nat → Nat) : sumUpF E3 100000000 143 a51 (tplK ts K) [] = some (v51, b51) := by kernel_rfl
def a52 : List Value := [.agg ⟨[.int .u8 7, .int .u8 1, .int .u8 1, .int .u8 0, .int .u8 0, .int .u8 0, .int .u8 0, .bool false, .bool false, .int .u16 0, .int .i64 1]⟩]
def v52 : Value := .int .u8 1
def b52 : List Blk := []
set_option maxRecDepth 1000000 in
theorem r52 (ts : Nat → Nat) : sumUpF E3 100000000 173 a52 (tplK ts K) [] = some (v52, b52) := by kernel_rfl
def a53 : List Value := [.agg ⟨[.int .u8 8, .int .u8 2, .int .u8 0, .int .u8 0, .int .u8 0, .int .u8 0, .int .u8 0, .bool false, .bool false, .int .u16 0, .int .i64 500]⟩]
def v53 : Value := .int .u8 1
def b53 : List Blk := []
set_option maxRecDepth 1000000 in
theorem r53 (ts : Nat → Nat) : sumUpF E3 100000000 173 a53 (tplK ts K) [] = some (v53, b53) := by kernel_rfl
def a54 : List Value := [.agg ⟨[.int .u8 7, .int .u8 1, .int .u8 1, .int .u8 0, .int .u8 0, .int .u8 0, .int .u8 0, .bool false, .bool false, .int .u16 0, .int .i64 1]⟩, .int .u32 4]
def v54 : Value := .bool true
def b54 : List Blk := []
set_option maxRecDepth 1000000 in
theorem r54 (ts : Nat → Nat) : sumUpF E3 100000000 192 a54 (tplK ts K) [] = some (v54, b54) := by kernel_rfl
def a55 : List Value := [.agg ⟨[.int .u8 8, .int .u8 2, .int .u8 0, .int .u8 0, .int .u8 0, .int .u8 0, .int .u8 0, .bool false, .bool false, .int .u16 0, .int .i64 500]⟩, .int .u32 4]
def v55 : Value := .bool true
def b55 : List Blk := []
set_option maxRecDepth 1000000 in
theorem r55 (ts : Nat → Nat) : sumUpF E3 100000000 192 a55 (tplK ts K) [] = some (v55, b55) := by kernel_rfl
def a56 : List Value := [.int .u8 30]
def v56 : Value := .tuple ⟨[.agg ⟨[.int .u8 10, .int .i64 12, .int .i64 2, .bool true, .bool true]⟩, .bool true]⟩
def b56 : List Blk := []
set_option maxRecDepth 1000000 in
theorem r56 (ts : Nat → Nat) : sumUpF E3 100000000 233 a56 (tplK ts K) [] = some (v56, b56) := by kernel_rfl
end Go.Proofs.YtjhicjgclbapkaaGreatDoor
