import Derived.Test.YtibeagkgilmokaaGreatDoorFkML5
namespace Go.Proofs.YtibeagkgilmokaaGreatDoor
open Go.Dv
def a95 : List Value := [.agg ⟨[.int .u8 27, .int .u8 0, .int .u8 0, .int .u8 0, .int .u8 0, .int .u8 0, .int .u8 0, .bool false, .bool false, .int .u16 0, .int .i64 4]⟩, .int .u32 4]
def v95 : Value := .bool true
def b95 : List Blk := []
set_option maxRecDepth 1000000 in
theorem r95 (ts : Nat → Nat) : sumUpF E5 100000000 113 a95 (tplK ts K) [] = some (v95, b95) := by kernel_rfl
def a96 : List Value := [.agg ⟨[.int .u8 27, .int .u8 0, .int .u8 0, .int .u8 0, .int .u8 0, .int .u8 0, .int .u8 1, .bool false, .bool false, .int .u16 0, .int .i64 16]⟩, .int .u32 0]
def v96 : Value := .bool true
def b96 : List Blk := []
set_option maxRecDepth 1000000 in
theorem r96 (ts : Nat → Nat) : sumUpF E5 100000000 113 a96 (tplK ts K) [] = some (v96, b96) := by kernel_rfl
def a97 : List Value := [.agg ⟨[.int .u8 29, .int .u8 0, .int .u8 0, .int .u8 0, .int .u8 0, .int .u8 0, .int .u8 0, .bool false, .bool false, .int .u16 0, .int .i64 8]⟩, .int .u32 0]
def v97 : Value := .bool true
def b97 : List Blk := []
set_option maxRecDepth 1000000 in
theorem r97 (ts : Nat → Nat) : sumUpF E5 100000000 113 a97 (tplK ts K) [] = some (v97, b97) := by kernel_rfl
def a98 : List Value := [.agg ⟨[.int .u8 30, .int .u8 0, .int .u8 0, .int .u8 0, .int .u8 0, .int .u8 0, .int .u8 0, .bool false, .bool false, .int .u16 3, .int .i64 4]⟩, .int .u32 0]
def v98 : Value := .bool true
def b98 : List Blk := []
set_option maxRecDepth 1000000 in
theorem r98 (ts : Nat → Nat) : sumUpF E5 100000000 113 a98 (tplK ts K) [] = some (v98, b98) := by kernel_rfl
end Go.Proofs.YtibeagkgilmokaaGreatDoor
