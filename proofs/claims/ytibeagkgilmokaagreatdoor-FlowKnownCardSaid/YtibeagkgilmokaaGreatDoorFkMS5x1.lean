import Derived.Test.YtibeagkgilmokaaGreatDoorFkML4
namespace Go.Proofs.YtibeagkgilmokaaGreatDoor
open Go.Dv
def a84 : List Value := [.int .u8 27]
def v84 : Value := .bool true
def b84 : List Blk := []
set_option maxRecDepth 1000000 in
theorem r84 (ts : Nat → Nat) : sumUpF E4 100000000 62 a84 (tplK ts K) [] = some (v84, b84) := by kernel_rfl
def a85 : List Value := [.int .u8 29]
def v85 : Value := .bool true
def b85 : List Blk := []
set_option maxRecDepth 1000000 in
theorem r85 (ts : Nat → Nat) : sumUpF E4 100000000 62 a85 (tplK ts K) [] = some (v85, b85) := by kernel_rfl
def a86 : List Value := [.int .u8 30]
def v86 : Value := .bool true
def b86 : List Blk := []
set_option maxRecDepth 1000000 in
theorem r86 (ts : Nat → Nat) : sumUpF E4 100000000 62 a86 (tplK ts K) [] = some (v86, b86) := by kernel_rfl
def a87 : List Value := [.agg ⟨[.int .u8 27, .int .u8 0, .int .u8 0, .int .u8 0, .int .u8 0, .int .u8 0, .int .u8 0, .bool false, .bool false, .int .u16 0, .int .i64 4]⟩, .int .u32 4]
def v87 : Value := .tuple ⟨[.int .i64 0, .bool true]⟩
def b87 : List Blk := []
set_option maxRecDepth 1000000 in
theorem r87 (ts : Nat → Nat) : sumUpF E4 100000000 146 a87 (tplK ts K) [] = some (v87, b87) := by kernel_rfl
def a88 : List Value := [.agg ⟨[.int .u8 27, .int .u8 0, .int .u8 0, .int .u8 0, .int .u8 0, .int .u8 0, .int .u8 1, .bool false, .bool false, .int .u16 0, .int .i64 16]⟩, .int .u32 0]
def v88 : Value := .tuple ⟨[.int .i64 16, .bool true]⟩
def b88 : List Blk := []
set_option maxRecDepth 1000000 in
theorem r88 (ts : Nat → Nat) : sumUpF E4 100000000 146 a88 (tplK ts K) [] = some (v88, b88) := by kernel_rfl
def a89 : List Value := [.agg ⟨[.int .u8 29, .int .u8 0, .int .u8 0, .int .u8 0, .int .u8 0, .int .u8 0, .int .u8 0, .bool false, .bool false, .int .u16 0, .int .i64 8]⟩, .int .u32 0]
def v89 : Value := .tuple ⟨[.int .i64 8, .bool true]⟩
def b89 : List Blk := []
set_option maxRecDepth 1000000 in
theorem r89 (ts : Nat → Nat) : sumUpF E4 100000000 146 a89 (tplK ts K) [] = some (v89, b89) := by kernel_rfl
def a90 : List Value := [.agg ⟨[.int .u8 30, .int .u8 0, .int .u8 0, .int .u8 0, .int .u8 0, .int .u8 0, .int .u8 0, .bool false, .bool false, .int .u16 3, .int .i64 4]⟩, .int .u32 0]
def v90 : Value := .tuple ⟨[.int .i64 4, .bool true]⟩
def b90 : List Blk := []
set_option maxRecDepth 1000000 in
theorem r90 (ts : Nat → Nat) : sumUpF E4 100000000 146 a90 (tplK ts K) [] = some (v90, b90) := by kernel_rfl
def a91 : List Value := [.agg ⟨[.int .u8 1, .int .u8 0, .int .u8 0, .int .u8 0, .int .u8 0, .int .u8 0, .int .u8 0, .bool false, .bool false, .int .u16 0, .int .i64 0]⟩, .int .u32 4]
def v91 : Value := .tuple ⟨[.int .u32 67108864, .int .u32 0, .bool true]⟩
def b91 : List Blk := []
set_option maxRecDepth 1000000 in
theorem r91 (ts : Nat → Nat) : sumUpF E4 100000000 149 a91 (tplK ts K) [] = some (v91, b91) := by kernel_rfl
def a92 : List Value := [.agg ⟨[.int .u8 1, .int .u8 0, .int .u8 0, .int .u8 0, .int .u8 0, .int .u8 0, .int .u8 0, .bool false, .bool false, .int .u16 0, .int .i64 0]⟩]
def v92 : Value := .bool false
def b92 : List Blk := []
set_option maxRecDepth 1000000 in
theorem r92 (ts : Nat → Nat) : sumUpF E4 100000000 170 a92 (tplK ts K) [] = some (v92, b92) := by kernel_rfl
def a93 : List Value := [.agg ⟨[.int .u8 1, .int .u8 0, .int .u8 0, .int .u8 0, .int .u8 0, .int .u8 0, .int .u8 0, .bool false, .bool false, .int .u16 0, .int .i64 0]⟩, .agg ⟨[.int .u8 1, .int .u8 0, .int .u8 0, .int .u8 0, .int .u8 0, .int .u8 0, .int .u8 0, .bool false, .bool false, .int .u16 0, .int .i64 0]⟩]
def v93 : Value := .bool false
def b93 : List Blk := []
set_option maxRecDepth 1000000 in
theorem r93 (ts : Nat → Nat) : sumUpF E4 100000000 214 a93 (tplK ts K) [] = some (v93, b93) := by kernel_rfl
def a94 : List Value := [.agg ⟨[.int .u8 1, .int .u8 0, .int .u8 0, .int .u8 0, .int .u8 0, .int .u8 0, .int .u8 0, .bool false, .bool false, .int .u16 0, .int .i64 0]⟩]
def v94 : Value := .tuple ⟨[.int .u8 0, .bool false, .bool false]⟩
def b94 : List Blk := []
set_option maxRecDepth 1000000 in
theorem r94 (ts : Nat → Nat) : sumUpF E4 100000000 215 a94 (tplK ts K) [] = some (v94, b94) := by kernel_rfl
end Go.Proofs.YtibeagkgilmokaaGreatDoor
