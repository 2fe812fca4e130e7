import Derived.Test.YtibeagkgilmokaaGreatDoorFk
namespace Go.Proofs.YtibeagkgilmokaaGreatDoor
open Go.Dv
def a1 : List Value := [.string ⟨⟨[105, 102, 32, 40, 112, 48, 41, 32, 106, 117, 109, 112, 32, 49, 54, 10]⟩⟩]
def v1 : Value := .tuple ⟨[.slice (some ⟨14, 0, none⟩) 8 4611686018427387909, .slice none 0 0]⟩
def b1 : List Blk := [.cells [.int .u8 1, .string ⟨⟨[105, 102]⟩⟩, .int .i64 0, .int .i64 1, .int .i64 1, .int .u8 3, .string ⟨⟨[40]⟩⟩, .int .i64 0, .int .i64 1, .int .i64 4, .int .u8 1, .string ⟨⟨[112, 48]⟩⟩, .int .i64 0, .int .i64 1, .int .i64 5, .int .u8 3, .string ⟨⟨[41]⟩⟩, .int .i64 0, .int .i64 1, .int .i64 7, .int .u8 1, .string ⟨⟨[106, 117, 109, 112]⟩⟩, .int .i64 0, .int .i64 1, .int .i64 9, .int .u8 2, .string ⟨⟨[49, 54]⟩⟩, .int .i64 16, .int .i64 1, .int .i64 14, .int .u8 4, .string ⟨⟨[]⟩⟩, .int .i64 0, .int .i64 1, .int .i64 16, .int .u8 4, .string ⟨⟨[]⟩⟩, .int .i64 0, .int .i64 2, .int .i64 1] 136 true none 0]
set_option maxRecDepth 1000000 in
theorem r1 (ts : Nat → Nat) : sumUpF E0 100000000 24 a1 (tplK ts K) [30] = some (v1, b1) := by kernel_rfl
def a2 : List Value := [.string ⟨⟨[108, 111, 111, 112, 48, 40, 65, 44, 32, 35, 51, 41, 10, 65, 58, 32, 123, 32, 110, 111, 112, 10, 32, 110, 111, 112, 32, 125, 32, 58, 101, 110, 100, 108, 111, 111, 112, 48, 10, 106, 117, 109, 112, 114, 32, 114, 51, 49, 10]⟩⟩]
def v2 : Value := .tuple ⟨[.slice (some ⟨14, 0, none⟩) 22 4611686018427387909, .slice none 0 0]⟩
def b2 : List Blk := [.cells [.int .u8 1, .string ⟨⟨[108, 111, 111, 112, 48]⟩⟩, .int .i64 0, .int .i64 1, .int .i64 1, .int .u8 3, .string ⟨⟨[40]⟩⟩, .int .i64 0, .int .i64 1, .int .i64 6, .int .u8 1, .string ⟨⟨[65]⟩⟩, .int .i64 0, .int .i64 1, .int .i64 7, .int .u8 3, .string ⟨⟨[44]⟩⟩, .int .i64 0, .int .i64 1, .int .i64 8, .int .u8 3, .string ⟨⟨[35]⟩⟩, .int .i64 0, .int .i64 1, .int .i64 10, .int .u8 2, .string ⟨⟨[51]⟩⟩, .int .i64 3, .int .i64 1, .int .i64 11, .int .u8 3, .string ⟨⟨[41]⟩⟩, .int .i64 0, .int .i64 1, .int .i64 12, .int .u8 4, .string ⟨⟨[]⟩⟩, .int .i64 0, .int .i64 1, .int .i64 13, .int .u8 1, .string ⟨⟨[65]⟩⟩, .int .i64 0, .int .i64 2, .int .i64 1, .int .u8 3, .string ⟨⟨[58]⟩⟩, .int .i64 0, .int .i64 2, .int .i64 2, .int .u8 3, .string ⟨⟨[123]⟩⟩, .int .i64 0, .int .i64 2, .int .i64 4, .int .u8 1, .string ⟨⟨[110, 111, 112]⟩⟩, .int .i64 0, .int .i64 2, .int .i64 6, .int .u8 4, .string ⟨⟨[]⟩⟩, .int .i64 0, .int .i64 2, .int .i64 9, .int .u8 1, .string ⟨⟨[110, 111, 112]⟩⟩, .int .i64 0, .int .i64 3, .int .i64 2, .int .u8 3, .string ⟨⟨[125]⟩⟩, .int .i64 0, .int .i64 3, .int .i64 6, .int .u8 3, .string ⟨⟨[58]⟩⟩, .int .i64 0, .int .i64 3, .int .i64 8, .int .u8 1, .string ⟨⟨[101, 110, 100, 108, 111, 111, 112, 48]⟩⟩, .int .i64 0, .int .i64 3, .int .i64 9, .int .u8 4, .string ⟨⟨[]⟩⟩, .int .i64 0, .int .i64 3, .int .i64 17, .int .u8 1, .string ⟨⟨[106, 117, 109, 112, 114]⟩⟩, .int .i64 0, .int .i64 4, .int .i64 1, .int .u8 1, .string ⟨⟨[114, 51, 49]⟩⟩, .int .i64 0, .int .i64 4, .int .i64 7, .int .u8 4, .string ⟨⟨[]⟩⟩, .int .i64 0, .int .i64 4, .int .i64 10, .int .u8 4, .string ⟨⟨[]⟩⟩, .int .i64 0, .int .i64 5, .int .i64 1] 136 true none 0]
set_option maxRecDepth 1000000 in
theorem r2 (ts : Nat → Nat) : sumUpF E0 100000000 24 a2 (tplK ts K) [58] = some (v2, b2) := by kernel_rfl
def a3 : List Value := [.string ⟨⟨[110, 111, 112, 10, 76, 58, 32, 106, 117, 109, 112, 32, 76, 10, 110, 111, 112, 10]⟩⟩]
def v3 : Value := .tuple ⟨[.slice (some ⟨14, 0, none⟩) 10 4611686018427387909, .slice none 0 0]⟩
def b3 : List Blk := [.cells [.int .u8 1, .string ⟨⟨[110, 111, 112]⟩⟩, .int .i64 0, .int .i64 1, .int .i64 1, .int .u8 4, .string ⟨⟨[]⟩⟩, .int .i64 0, .int .i64 1, .int .i64 4, .int .u8 1, .string ⟨⟨[76]⟩⟩, .int .i64 0, .int .i64 2, .int .i64 1, .int .u8 3, .string ⟨⟨[58]⟩⟩, .int .i64 0, .int .i64 2, .int .i64 2, .int .u8 1, .string ⟨⟨[106, 117, 109, 112]⟩⟩, .int .i64 0, .int .i64 2, .int .i64 4, .int .u8 1, .string ⟨⟨[76]⟩⟩, .int .i64 0, .int .i64 2, .int .i64 9, .int .u8 4, .string ⟨⟨[]⟩⟩, .int .i64 0, .int .i64 2, .int .i64 10, .int .u8 1, .string ⟨⟨[110, 111, 112]⟩⟩, .int .i64 0, .int .i64 3, .int .i64 1, .int .u8 4, .string ⟨⟨[]⟩⟩, .int .i64 0, .int .i64 3, .int .i64 4, .int .u8 4, .string ⟨⟨[]⟩⟩, .int .i64 0, .int .i64 4, .int .i64 1] 136 true none 0]
set_option maxRecDepth 1000000 in
theorem r3 (ts : Nat → Nat) : sumUpF E0 100000000 24 a3 (tplK ts K) [34] = some (v3, b3) := by kernel_rfl
def a4 : List Value := [.string ⟨⟨[99, 97, 108, 108, 32, 56, 10, 110, 111, 112, 10, 46, 115, 101, 99, 116, 105, 111, 110, 32, 100, 97, 116, 97, 10, 46, 119, 111, 114, 100, 32, 48, 10, 46, 115, 101, 99, 116, 105, 111, 110, 32, 99, 111, 100, 101, 10, 110, 111, 112]⟩⟩]
def v4 : Value := .tuple ⟨[.slice (some ⟨14, 0, none⟩) 16 4611686018427387909, .slice none 0 0]⟩
def b4 : List Blk := [.cells [.int .u8 1, .string ⟨⟨[99, 97, 108, 108]⟩⟩, .int .i64 0, .int .i64 1, .int .i64 1, .int .u8 2, .string ⟨⟨[56]⟩⟩, .int .i64 8, .int .i64 1, .int .i64 6, .int .u8 4, .string ⟨⟨[]⟩⟩, .int .i64 0, .int .i64 1, .int .i64 7, .int .u8 1, .string ⟨⟨[110, 111, 112]⟩⟩, .int .i64 0, .int .i64 2, .int .i64 1, .int .u8 4, .string ⟨⟨[]⟩⟩, .int .i64 0, .int .i64 2, .int .i64 4, .int .u8 1, .string ⟨⟨[46, 115, 101, 99, 116, 105, 111, 110]⟩⟩, .int .i64 0, .int .i64 3, .int .i64 1, .int .u8 1, .string ⟨⟨[100, 97, 116, 97]⟩⟩, .int .i64 0, .int .i64 3, .int .i64 10, .int .u8 4, .string ⟨⟨[]⟩⟩, .int .i64 0, .int .i64 3, .int .i64 14, .int .u8 1, .string ⟨⟨[46, 119, 111, 114, 100]⟩⟩, .int .i64 0, .int .i64 4, .int .i64 1, .int .u8 2, .string ⟨⟨[48]⟩⟩, .int .i64 0, .int .i64 4, .int .i64 7, .int .u8 4, .string ⟨⟨[]⟩⟩, .int .i64 0, .int .i64 4, .int .i64 8, .int .u8 1, .string ⟨⟨[46, 115, 101, 99, 116, 105, 111, 110]⟩⟩, .int .i64 0, .int .i64 5, .int .i64 1, .int .u8 1, .string ⟨⟨[99, 111, 100, 101]⟩⟩, .int .i64 0, .int .i64 5, .int .i64 10, .int .u8 4, .string ⟨⟨[]⟩⟩, .int .i64 0, .int .i64 5, .int .i64 14, .int .u8 1, .string ⟨⟨[110, 111, 112]⟩⟩, .int .i64 0, .int .i64 6, .int .i64 1, .int .u8 4, .string ⟨⟨[]⟩⟩, .int .i64 0, .int .i64 6, .int .i64 4] 136 true none 0]
set_option maxRecDepth 1000000 in
theorem r4 (ts : Nat → Nat) : sumUpF E0 100000000 24 a4 (tplK ts K) [46] = some (v4, b4) := by kernel_rfl
def a5 : List Value := [.int .u32 67158016, .int .i64 4]
def v5 : Value := .slice (some ⟨14, 0, none⟩) 4 4611686018427387905
def b5 : List Blk := [.cells [.int .u8 0, .int .u8 192, .int .u8 0, .int .u8 4] 5 true none 0]
set_option maxRecDepth 1000000 in
theorem r5 (ts : Nat → Nat) : sumUpF E0 100000000 71 a5 (tplK ts K) [21] = some (v5, b5) := by kernel_rfl
def a6 : List Value := [.int .u8 1, .int .u32 0, .int .u8 0]
def v6 : Value := .int .u32 67108864
def b6 : List Blk := []
set_option maxRecDepth 1000000 in
theorem r6 (ts : Nat → Nat) : sumUpF E0 100000000 119 a6 (tplK ts K) [] = some (v6, b6) := by kernel_rfl
def a7 : List Value := [.int .u32 1811988480]
def v7 : Value := .tuple ⟨[.int .u8 27, .int .u32 0, .int .u8 3]⟩
def b7 : List Blk := []
set_option maxRecDepth 1000000 in
theorem r7 (ts : Nat → Nat) : sumUpF E0 100000000 124 a7 (tplK ts K) [] = some (v7, b7) := by kernel_rfl
def a8 : List Value := [.int .u32 1820377092]
def v8 : Value := .tuple ⟨[.int .u8 27, .int .u32 2097156, .int .u8 3]⟩
def b8 : List Blk := []
set_option maxRecDepth 1000000 in
theorem r8 (ts : Nat → Nat) : sumUpF E0 100000000 124 a8 (tplK ts K) [] = some (v8, b8) := by kernel_rfl
def a9 : List Value := [.int .u32 1881128960]
def v9 : Value := .tuple ⟨[.int .u8 28, .int .u32 507904, .int .u8 3]⟩
def b9 : List Blk := []
set_option maxRecDepth 1000000 in
theorem r9 (ts : Nat → Nat) : sumUpF E0 100000000 124 a9 (tplK ts K) [] = some (v9, b9) := by kernel_rfl
def a10 : List Value := [.int .u32 1946206210]
def v10 : Value := .tuple ⟨[.int .u8 29, .int .u32 2, .int .u8 3]⟩
def b10 : List Blk := []
set_option maxRecDepth 1000000 in
theorem r10 (ts : Nat → Nat) : sumUpF E0 100000000 124 a10 (tplK ts K) [] = some (v10, b10) := by kernel_rfl
def a11 : List Value := [.int .u32 2013317123]
def v11 : Value := .tuple ⟨[.int .u8 30, .int .u32 2051, .int .u8 3]⟩
def b11 : List Blk := []
set_option maxRecDepth 1000000 in
theorem r11 (ts : Nat → Nat) : sumUpF E0 100000000 124 a11 (tplK ts K) [] = some (v11, b11) := by kernel_rfl
def a12 : List Value := [.int .u32 67141632]
def v12 : Value := .tuple ⟨[.int .u8 1, .int .u32 0, .int .u8 2]⟩
def b12 : List Blk := []
set_option maxRecDepth 1000000 in
theorem r12 (ts : Nat → Nat) : sumUpF E0 100000000 124 a12 (tplK ts K) [] = some (v12, b12) := by kernel_rfl
end Go.Proofs.YtibeagkgilmokaaGreatDoor
