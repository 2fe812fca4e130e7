import Derived.Test.YtjhicjgclbapkaaGreatDoorDv4
import Derived.Test.YtjhicjgclbapkaaGreatDoorRows
import Derived.KernelRfl
import Derived.LaidLaws
import Derived.Test.YtjhicjgclbapkaaGreatDoorDv5
import Derived.Test.YtjhicjgclbapkaaGreatDoorCards
section
namespace Go.Proofs.YtjhicjgclbapkaaGreatDoor
open Go.Dv Go.Proofs
def K : List (Option (List Value)) := [
  some [.int .i64 26, .int .i64 6],
  some [.int .i64 0, .int .i64 14, .int .i64 16, .int .i64 10],
  some [.int .i64 14, .int .i64 2],
  some [.slice (some ⟨12, 0, none⟩) 9 9],
  some [.int .i64 16, .int .i64 16],
  some [.int .u64 1, .int .u64 10, .int .u64 100, .int .u64 1000, .int .u64 10000, .int .u64 100000, .int .u64 1000000, .int .u64 10000000, .int .u64 100000000, .int .u64 1000000000, .int .u64 10000000000, .int .u64 100000000000, .int .u64 1000000000000, .int .u64 10000000000000, .int .u64 100000000000000, .int .u64 1000000000000000, .int .u64 10000000000000000, .int .u64 100000000000000000, .int .u64 1000000000000000000, .int .u64 10000000000000000000],
  none,
  some [.int .u8 0, .int .u8 1, .int .u8 28, .int .u8 2, .int .u8 29, .int .u8 14, .int .u8 24, .int .u8 3, .int .u8 30, .int .u8 22, .int .u8 20, .int .u8 15, .int .u8 25, .int .u8 17, .int .u8 4, .int .u8 8, .int .u8 31, .int .u8 27, .int .u8 13, .int .u8 23, .int .u8 21, .int .u8 19, .int .u8 16, .int .u8 7, .int .u8 26, .int .u8 12, .int .u8 18, .int .u8 6, .int .u8 11, .int .u8 5, .int .u8 10, .int .u8 9],
  some [.int .u8 0, .int .u8 1, .int .u8 56, .int .u8 2, .int .u8 57, .int .u8 49, .int .u8 28, .int .u8 3, .int .u8 61, .int .u8 58, .int .u8 42, .int .u8 50, .int .u8 38, .int .u8 29, .int .u8 17, .int .u8 4, .int .u8 62, .int .u8 47, .int .u8 59, .int .u8 36, .int .u8 45, .int .u8 43, .int .u8 51, .int .u8 22, .int .u8 53, .int .u8 39, .int .u8 33, .int .u8 30, .int .u8 24, .int .u8 18, .int .u8 12, .int .u8 5, .int .u8 63, .int .u8 55, .int .u8 48, .int .u8 27, .int .u8 60, .int .u8 41, .int .u8 37, .int .u8 16, .int .u8 46, .int .u8 35, .int .u8 44, .int .u8 21, .int .u8 52, .int .u8 32, .int .u8 23, .int .u8 11, .int .u8 54, .int .u8 26, .int .u8 40, .int .u8 15, .int .u8 34, .int .u8 20, .int .u8 31, .int .u8 10, .int .u8 25, .int .u8 14, .int .u8 19, .int .u8 9, .int .u8 13, .int .u8 8, .int .u8 7, .int .u8 6],
  none,
  some [.iface 538 (.pointer (some ⟨13, 0, none⟩))],
  some [.iface 538 (.pointer (some ⟨14, 0, none⟩))],
  some [.int .u8 8, .int .i64 1, .int .i64 4, .int .i64 0, .int .i64 5, .int .i64 7, .int .i64 0, .int .i64 0, .int .i64 0, .int .i64 0, .int .u8 7, .int .i64 4, .int .i64 4, .int .i64 0, .int .i64 6, .int .i64 7, .int .i64 0, .int .i64 0, .int .i64 0, .int .i64 0, .int .u8 9, .int .i64 1, .int .i64 4, .int .i64 0, .int .i64 2, .int .i64 4, .int .i64 0, .int .i64 0, .int .i64 0, .int .i64 0, .int .u8 2, .int .i64 4, .int .i64 4, .int .i64 0, .int .i64 3, .int .i64 4, .int .i64 0, .int .i64 0, .int .i64 0, .int .i64 0, .int .u8 21, .int .i64 1, .int .i64 4, .int .i64 0, .int .i64 2, .int .i64 4, .int .i64 0, .int .i64 5, .int .i64 3, .int .i64 2, .int .u8 24, .int .i64 2, .int .i64 4, .int .i64 0, .int .i64 3, .int .i64 4, .int .i64 0, .int .i64 5, .int .i64 3, .int .i64 2, .int .u8 23, .int .i64 1, .int .i64 4, .int .i64 0, .int .i64 2, .int .i64 4, .int .i64 0, .int .i64 5, .int .i64 3, .int .i64 0, .int .u8 26, .int .i64 2, .int .i64 4, .int .i64 0, .int .i64 3, .int .i64 4, .int .i64 0, .int .i64 5, .int .i64 3, .int .i64 0, .int .u8 13, .int .i64 2, .int .i64 4, .int .i64 0, .int .i64 5, .int .i64 7, .int .i64 0, .int .i64 0, .int .i64 0, .int .i64 0],
  some [.string ⟨⟨[105, 110, 118, 97, 108, 105, 100, 32, 115, 121, 110, 116, 97, 120]⟩⟩],
  some [.string ⟨⟨[118, 97, 108, 117, 101, 32, 111, 117, 116, 32, 111, 102, 32, 114, 97, 110, 103, 101]⟩⟩]
  ]
section
variable {W : World}

/- a laid variable of data without pointers -/
theorem var_krel {β : Bm} {name : String} {g : Nat} {t : TypeId} {cs : Array Value} {fuel n : Nat} {d : DataW Unit} {c : List Value} {p : List MemPlace} (hn : Tryz.prog.globalNamed name = some g)
    (hv : W.var? Tryz.prog name = some cs) (hd : DataW.trod (fun _ => ()) Tryz.prog W 0 (fun _ => true) false fuel t cs.toList = some (d, p)) (hf : flat Tryz.prog n t d = some c) (hs : scalars c = true) :
    g < W.heap.size ∧ ∃ t', KRel β W ⟨g, 0, cs.size⟩ c t' := by
  have hc := flat_trod fuel n t d c cs.toList p hd hf
  unfold World.var? at hv
  rw [hn] at hv
  simp only [Option.bind_some] at hv
  split at hv
  · rename_i cs' t' f hb
    cases hv
    refine ⟨lt_of_get hb, t', cs, f, hb, rfl, by rw [← hc]; simp, fun j v hj => ⟨v, ?_, scalar_refl v (scalars_iff.1 hs j v hj)⟩⟩
    rw [← hc] at hj
    simpa using hj
  · cases hv

theorem var_at {name : String} {g : Nat} {cs : Array Value} (hn : Tryz.prog.globalNamed name = some g) (hv : W.var? Tryz.prog name = some cs) : ∃ t f, W.heap[g]? = some (.cells cs t f) := by
  unfold World.var? at hv
  rw [hn] at hv
  simp only [Option.bind_some] at hv
  split at hv
  · rename_i cs' t' f hb; cases hv; exact ⟨_, _, hb⟩
  · cases hv

/- a variable of one cell -/
theorem one_krel {β : Bm} {g : Nat} {cs : Array Value} {t : TypeId} {f : Nat × Nat} {v v' : Value} (hb : W.heap[g]? = some (.cells cs t f)) (hc : cs.toList = [v']) (hr : VRel β v v') :
    KRel β W ⟨g, 0, cs.size⟩ [v] t := by
  have hs : cs = #[v'] := by apply Array.ext'; simpa using hc
  subst hs
  refine ⟨_, f, hb, rfl, by simp, fun j u hj => ?_⟩
  cases j with
  | zero => simp at hj; subst hj; exact ⟨v', by simp, hr⟩
  | succ j => simp at hj

end

theorem star : "*" ++ "errors.errorString" = "*errors.errorString" := by decide
theorem row538 (u : TypeId) (h : Tryz.prog.typeName? 3 u = some "*errors.errorString") : u = 538 :=
  typeName_ptr_named (nm := "errors.errorString") (by rw [star]; kernel_rfl) (by kernel_rfl) (by decide) u (by rw [star]; exact h)
theorem c540 : Tryz.prog.cellsOf 540 = 1 := by kernel_rfl
theorem c9 : Tryz.prog.cellsOf 9 = 1 := by kernel_rfl
theorem c346 : Tryz.prog.cellsOf 346 = 10 := by kernel_rfl
theorem K_clo : cloK 15 K = true := by kernel_rfl
theorem gn0 : Tryz.prog.globalNamed "coxless/bits.codeAt" = some 0 := by kernel_rfl
theorem gn1 : Tryz.prog.globalNamed "coxless/bits.ends" = some 1 := by kernel_rfl
theorem gn2 : Tryz.prog.globalNamed "coxless/bits.parseAt" = some 2 := by kernel_rfl
theorem gn3 : Tryz.prog.globalNamed "coxless/sub.rows" = some 3 := by kernel_rfl
theorem gn4 : Tryz.prog.globalNamed "coxless/bits.upper" = some 4 := by kernel_rfl
theorem gn5 : Tryz.prog.globalNamed "internal/strconv.uint64pow10" = some 5 := by kernel_rfl
theorem gn7 : Tryz.prog.globalNamed "math/bits.deBruijn32tab" = some 7 := by kernel_rfl
theorem gn8 : Tryz.prog.globalNamed "math/bits.deBruijn64tab" = some 8 := by kernel_rfl
theorem gn10 : Tryz.prog.globalNamed "strconv.ErrSyntax" = some 10 := by kernel_rfl
theorem gn11 : Tryz.prog.globalNamed "strconv.ErrRange" = some 11 := by kernel_rfl
theorem gt0 : (Tryz.prog.globals[0]?).map (·.type) = some 233 := by kernel_rfl
theorem gt1 : (Tryz.prog.globals[1]?).map (·.type) = some 235 := by kernel_rfl
theorem gt2 : (Tryz.prog.globals[2]?).map (·.type) = some 233 := by kernel_rfl
theorem gt3 : (Tryz.prog.globals[3]?).map (·.type) = some 341 := by kernel_rfl
theorem gt4 : (Tryz.prog.globals[4]?).map (·.type) = some 233 := by kernel_rfl
theorem gt5 : (Tryz.prog.globals[5]?).map (·.type) = some 437 := by kernel_rfl
theorem gt7 : (Tryz.prog.globals[7]?).map (·.type) = some 504 := by kernel_rfl
theorem gt8 : (Tryz.prog.globals[8]?).map (·.type) = some 505 := by kernel_rfl
theorem gt10 : (Tryz.prog.globals[10]?).map (·.type) = some 209 := by kernel_rfl
theorem gt11 : (Tryz.prog.globals[11]?).map (·.type) = some 209 := by kernel_rfl
def Kc (i : Nat) : List Value := match K[i]? with | some (some c) => c | _ => []
theorem fl0 : flat Tryz.prog 9 233 Rows.laid_coxless_bits_codeAt = some (Kc 0) := by kernel_rfl
theorem fl1 : flat Tryz.prog 9 235 Rows.laid_coxless_bits_ends = some (Kc 1) := by kernel_rfl
theorem fl2 : flat Tryz.prog 9 233 Rows.laid_coxless_bits_parseAt = some (Kc 2) := by kernel_rfl
theorem fl4 : flat Tryz.prog 9 233 Rows.laid_coxless_bits_upper = some (Kc 4) := by kernel_rfl
theorem fl5 : flat Tryz.prog 9 437 Rows.laid_internal_strconv_uint64pow10 = some (Kc 5) := by kernel_rfl
theorem fl7 : flat Tryz.prog 9 504 Rows.laid_math_bits_deBruijn32tab = some (Kc 7) := by kernel_rfl
theorem fl8 : flat Tryz.prog 9 505 Rows.laid_math_bits_deBruijn64tab = some (Kc 8) := by kernel_rfl
def rowsDs : List (DataW Unit) := match (Rows.laid_coxless_sub_rows : DataW Unit) with | .slice ds _ => ds | _ => []
theorem rows_eq : (Rows.laid_coxless_sub_rows : DataW Unit) = .slice rowsDs [] := by kernel_rfl
theorem fl12 : flatA (flat Tryz.prog 9 346) (Tryz.prog.cellsOf 346) rowsDs = some (Kc 12) := by kernel_rfl
end Go.Proofs.YtjhicjgclbapkaaGreatDoor
end
section
namespace Go.Proofs.YtjhicjgclbapkaaGreatDoor
open Go.Dv Go.Proofs

theorem K_at (i : Nat) (c : List Value) (h : K[i]? = some (some c)) : i < 15 ∧ i ≠ 6 ∧ i ≠ 9 ∧ c = Kc i := by
  have hl : K.length = 15 := by kernel_rfl
  refine ⟨?_, ?_, ?_, ?_⟩
  · rcases Nat.lt_or_ge i 15 with h1 | h1
    · exact h1
    · rw [List.getElem?_eq_none (by omega)] at h; cases h
  · rintro rfl
    rw [show K[6]? = some none by kernel_rfl] at h; cases h
  · rintro rfl
    rw [show K[9]? = some none by kernel_rfl] at h; cases h
  · unfold Kc; rw [h]

theorem KRel.mono0 {β : Bm} {W : World} {x : BI} {c : List Value} {t : Nat} (h : KRel (fun _ => none) W x c t) : KRel β W x c t := by
  obtain ⟨cc, f, h1, h2, h3, h4⟩ := h
  exact ⟨cc, f, h1, h2, h3, fun j v hj => let ⟨v', q1, q2⟩ := h4 j v hj; ⟨v', q1, q2.mono fun i x h => by cases h⟩⟩

theorem str_krel {W : World} {a : Addr} {cc : Array Value} {t : Nat} {f : Nat × Nat} {s : ByteArray} {text : List UInt8} (hb : W.heap[a.block]? = some (.cells cc t f)) (hc : cc[a.off]? = some (.string s))
    (hs : s.data.toList = text) : KRel (fun _ => none) W ⟨a.block, a.off, cc.size⟩ [.string ⟨⟨text⟩⟩] t := by
  have he : s = ⟨⟨text⟩⟩ := bytes_beq_iff.1 (by rw [hs]; simp)
  subst he
  refine ⟨cc, f, hb, rfl, ?_, fun j v hj => ?_⟩
  · have := lt_of_get hc
    simp only [List.length_cons, List.length_nil]; omega
  · cases j with
    | zero => simp at hj; subst hj; exact ⟨_, by simpa using hc, .string _⟩
    | succ j => simp at hj

set_option maxRecDepth 100000 in
theorem laid_rel {W : World} (h : laidMet Tryz.prog Rows.asmKnownRow.laid W) : ∃ ts β, Rel Tryz.prog 15 (fun i => (tplK ts K).blk i) β (tplK ts K) W := by
  obtain ⟨ps, hl, _, hok⟩ := h
  obtain ⟨g, t, cs0, f0, p0, q0, hn, ht, hv0, hd0, hl, e0⟩ := hl
  obtain rfl := Option.some.inj (gn0.symm.trans hn)
  obtain rfl := Option.some.inj (gt0.symm.trans ht)
  obtain ⟨g, t, cs1, f1, p1, q1, hn, ht, hv1, hd1, hl, e1⟩ := hl
  obtain rfl := Option.some.inj (gn1.symm.trans hn)
  obtain rfl := Option.some.inj (gt1.symm.trans ht)
  obtain ⟨g, t, cs2, f2, p2, q2, hn, ht, hv2, hd2, hl, e2⟩ := hl
  obtain rfl := Option.some.inj (gn2.symm.trans hn)
  obtain rfl := Option.some.inj (gt2.symm.trans ht)
  obtain ⟨g, t, cs4, f4, p4, q4, hn, ht, hv4, hd4, hl, e4⟩ := hl
  obtain rfl := Option.some.inj (gn4.symm.trans hn)
  obtain rfl := Option.some.inj (gt4.symm.trans ht)
  obtain ⟨g, t, cs7, f7, p7, q7, hn, ht, hv7, hd7, hl, e7⟩ := hl
  obtain rfl := Option.some.inj (gn7.symm.trans hn)
  obtain rfl := Option.some.inj (gt7.symm.trans ht)
  obtain ⟨g, t, cs8, f8, p8, q8, hn, ht, hv8, hd8, hl, e8⟩ := hl
  obtain rfl := Option.some.inj (gn8.symm.trans hn)
  obtain rfl := Option.some.inj (gt8.symm.trans ht)
  obtain ⟨g, t, cs5, f5, p5, q5, hn, ht, hv5, hd5, hl, e5⟩ := hl
  obtain rfl := Option.some.inj (gn5.symm.trans hn)
  obtain rfl := Option.some.inj (gt5.symm.trans ht)
  obtain ⟨g, t, cs3, f3, p3, q3, hn, ht, hv3, hd3, hl, e3⟩ := hl
  obtain rfl := Option.some.inj (gn3.symm.trans hn)
  obtain rfl := Option.some.inj (gt3.symm.trans ht)
  obtain ⟨g, t, cs11, f11, p11, q11, hn, ht, hv11, hd11, hl, e11⟩ := hl
  obtain rfl := Option.some.inj (gn11.symm.trans hn)
  obtain rfl := Option.some.inj (gt11.symm.trans ht)
  obtain ⟨g, t, cs10, f10, p10, q10, hn, ht, hv10, hd10, hl, e10⟩ := hl
  obtain rfl := Option.some.inj (gn10.symm.trans hn)
  obtain rfl := Option.some.inj (gt10.symm.trans ht)
  -- the errors
  have ok10 : ∀ u v, cs10.toList = [.iface u v] → Value.okWide Tryz.prog W .any 0 u v := fun u v e => by
    have hs : cs10 = #[.iface u v] := by apply Array.ext'; simpa using e
    subst hs
    refine (hok 10 0 ?_).2 u v (by simpa using World.var?_cell gn10 hv10 0)
    subst e0 e1 e2 e4 e7 e8 e5 e3 e11 e10
    simp [MemPlace.row]
  have ok11 : ∀ u v, cs11.toList = [.iface u v] → Value.okWide Tryz.prog W .any 0 u v := fun u v e => by
    have hs : cs11 = #[.iface u v] := by apply Array.ext'; simpa using e
    subst hs
    refine (hok 11 0 ?_).2 u v (by simpa using World.var?_cell gn11 hv11 0)
    subst e0 e1 e2 e4 e7 e8 e5 e3 e11
    simp [MemPlace.row]
  obtain ⟨a10, s10, c10, hc10, hs10, _, _⟩ := errorString_of_trod Tryz.underlying209 row538 Tryz.underlying538 Tryz.underlying540 rfl rfl Tryz.underlying9 c540 c9 hd10 ok10
  obtain ⟨a11, s11, c11, hc11, hs11, _, _⟩ := errorString_of_trod Tryz.underlying209 row538 Tryz.underlying538 Tryz.underlying540 rfl rfl Tryz.underlying9 c540 c9 hd11 ok11
  obtain ⟨hsp10, cc10, t13, fz13, hb13, hcc10⟩ := cell_block hc10
  obtain ⟨hsp11, cc11, t14, fz14, hb14, hcc11⟩ := cell_block hc11
  -- the row behind the slice
  obtain ⟨fuel3, rfl⟩ : ∃ n, f3 = n + 1 := by
    cases f3 with
    | zero => simp [DataW.trod] at hd3
    | succ n => exact ⟨n, rfl⟩
  have hd3' : DataW.trod (fun _ => ()) Tryz.prog W 0 (fun _ => true) false (fuel3 + 1) 341 cs3.toList = some (.slice rowsDs [], p3) := by rw [← rows_eq]; exact hd3
  obtain ⟨b12, o12, t12, x12, hcs3, hx12b, hx12o, k12⟩ := slice_krel (β := fun _ => none) Tryz.underlying341 hd3' fl12 (by rw [c346]; omega) (by decide) (by kernel_rfl)
  obtain ⟨l0, t0, k0⟩ := var_krel (β := fun _ => none) gn0 hv0 hd0 fl0 (by kernel_rfl)
  obtain ⟨l1, t1, k1⟩ := var_krel (β := fun _ => none) gn1 hv1 hd1 fl1 (by kernel_rfl)
  obtain ⟨l2, t2, k2⟩ := var_krel (β := fun _ => none) gn2 hv2 hd2 fl2 (by kernel_rfl)
  obtain ⟨l4, t4, k4⟩ := var_krel (β := fun _ => none) gn4 hv4 hd4 fl4 (by kernel_rfl)
  obtain ⟨l5, t5, k5⟩ := var_krel (β := fun _ => none) gn5 hv5 hd5 fl5 (by kernel_rfl)
  obtain ⟨l7, t7, k7⟩ := var_krel (β := fun _ => none) gn7 hv7 hd7 fl7 (by kernel_rfl)
  obtain ⟨l8, t8, k8⟩ := var_krel (β := fun _ => none) gn8 hv8 hd8 fl8 (by kernel_rfl)
  obtain ⟨t3, fz3, hb3⟩ := var_at gn3 hv3
  obtain ⟨t10, fz10, hb10⟩ := var_at gn10 hv10
  obtain ⟨t11, fz11, hb11⟩ := var_at gn11 hv11
  have k13 := str_krel hb13 hcc10 hs10
  have k14 := str_krel hb14 hcc11 hs11
  have l11 := lt_of_get hb11
  let β : Bm := fun i => match i with
    | 0 => some ⟨0, 0, cs0.size⟩ | 1 => some ⟨1, 0, cs1.size⟩ | 2 => some ⟨2, 0, cs2.size⟩ | 3 => some ⟨3, 0, cs3.size⟩ | 4 => some ⟨4, 0, cs4.size⟩ | 5 => some ⟨5, 0, cs5.size⟩ | 6 => some ⟨6, 0, 0⟩
    | 7 => some ⟨7, 0, cs7.size⟩ | 8 => some ⟨8, 0, cs8.size⟩ | 9 => some ⟨9, 0, 0⟩ | 10 => some ⟨10, 0, cs10.size⟩ | 11 => some ⟨11, 0, cs11.size⟩ | 12 => some x12
    | 13 => some ⟨a10.block, a10.off, cc10.size⟩ | 14 => some ⟨a11.block, a11.off, cc11.size⟩ | _ => none
  let ts : Nat → Nat := fun i => match i with
    | 0 => t0 | 1 => t1 | 2 => t2 | 3 => t3 | 4 => t4 | 5 => t5 | 7 => t7 | 8 => t8 | 10 => t10 | 11 => t11 | 12 => t12 | 13 => t13 | 14 => t14 | _ => 0
  have r3 : KRel β W ⟨3, 0, cs3.size⟩ (Kc 3) t3 := by
    refine one_krel hb3 hcs3 ?_
    have := VRel.slice (β := β) (i := 12) (o := 0) (l := 9) (c := 9) (x := x12) rfl (by decide)
    rw [hx12b, hx12o] at this
    exact this
  have r10 : KRel β W ⟨10, 0, cs10.size⟩ (Kc 10) t10 := by
    refine one_krel hb10 c10 (.iface ?_)
    have := VRel.ptr (β := β) (i := 13) (o := 0) (x := ⟨a10.block, a10.off, cc10.size⟩) rfl
    obtain ⟨ab, ao, asp⟩ := a10
    simp only at hsp10
    subst hsp10
    exact this
  have r11 : KRel β W ⟨11, 0, cs11.size⟩ (Kc 11) t11 := by
    refine one_krel hb11 c11 (.iface ?_)
    have := VRel.ptr (β := β) (i := 14) (o := 0) (x := ⟨a11.block, a11.off, cc11.size⟩) rfl
    obtain ⟨ab, ao, asp⟩ := a11
    simp only at hsp11
    subst hsp11
    exact this
  have x12lt : x12.b < W.heap.size := by obtain ⟨cc, f, h1, _⟩ := k12; exact lt_of_get h1
  refine ⟨ts, β, tplK_rel (K := K) (fun i hi => ?_) (fun i c hc => ?_) (fun g hg => ?_) (fun i x hx => ?_)⟩
  · have hl : K.length = 15 := by kernel_rfl
    rw [hl] at hi
    obtain ⟨j, rfl⟩ := Nat.exists_eq_add_of_le hi
    show β (15 + j) = none
    rw [Nat.add_comm]
    rfl
  · obtain ⟨h1, h2, h3, rfl⟩ := K_at i c hc
    have : i = 0 ∨ i = 1 ∨ i = 2 ∨ i = 3 ∨ i = 4 ∨ i = 5 ∨ i = 7 ∨ i = 8 ∨ i = 10 ∨ i = 11 ∨ i = 12 ∨ i = 13 ∨ i = 14 := by omega
    rcases this with rfl | rfl | rfl | rfl | rfl | rfl | rfl | rfl | rfl | rfl | rfl | rfl | rfl
    · exact ⟨_, rfl, KRel.mono0 k0⟩
    · exact ⟨_, rfl, KRel.mono0 k1⟩
    · exact ⟨_, rfl, KRel.mono0 k2⟩
    · exact ⟨_, rfl, r3⟩
    · exact ⟨_, rfl, KRel.mono0 k4⟩
    · exact ⟨_, rfl, KRel.mono0 k5⟩
    · exact ⟨_, rfl, KRel.mono0 k7⟩
    · exact ⟨_, rfl, KRel.mono0 k8⟩
    · exact ⟨_, rfl, r10⟩
    · exact ⟨_, rfl, r11⟩
    · exact ⟨_, rfl, KRel.mono0 k12⟩
    · exact ⟨_, rfl, KRel.mono0 k13⟩
    · exact ⟨_, rfl, KRel.mono0 k14⟩
  · have hG : Tryz.prog.globals.size = 12 := by kernel_rfl
    rw [hG] at hg
    have hl : K.length = 15 := by kernel_rfl
    refine ⟨by omega, ?_⟩
    have : g = 0 ∨ g = 1 ∨ g = 2 ∨ g = 3 ∨ g = 4 ∨ g = 5 ∨ g = 6 ∨ g = 7 ∨ g = 8 ∨ g = 9 ∨ g = 10 ∨ g = 11 := by omega
    rcases this with rfl | rfl | rfl | rfl | rfl | rfl | rfl | rfl | rfl | rfl | rfl | rfl <;> exact ⟨_, rfl, rfl, rfl⟩
  · have l13 := lt_of_get hb13
    have l14 := lt_of_get hb14
    rcases Nat.lt_or_ge i 15 with h15 | h15
    · have : i = 0 ∨ i = 1 ∨ i = 2 ∨ i = 3 ∨ i = 4 ∨ i = 5 ∨ i = 6 ∨ i = 7 ∨ i = 8 ∨ i = 9 ∨ i = 10 ∨ i = 11 ∨ i = 12 ∨ i = 13 ∨ i = 14 := by omega
      rcases this with rfl | rfl | rfl | rfl | rfl | rfl | rfl | rfl | rfl | rfl | rfl | rfl | rfl | rfl | rfl <;> (cases hx; first | assumption | exact Nat.lt_of_le_of_lt (Nat.le_of_ble_eq_true rfl) l11)
    · obtain ⟨j, rfl⟩ := Nat.exists_eq_add_of_le h15
      have hx : β (15 + j) = some x := hx
      rw [Nat.add_comm] at hx
      cases hx
end Go.Proofs.YtjhicjgclbapkaaGreatDoor
end
section
namespace Go.Proofs.YtjhicjgclbapkaaGreatDoor
open Go.Dv Go.Proofs
def xt0 : FuncId → Option (List Value → Option Value) := fun f => match Nat.beq f 349 with | true => some xtIdx | false => none
noncomputable def E0 : Env := { P := Tryz.prog, nC := 15, sm := fun _ => none, xt := xt0 }
theorem names : (Tryz.prog.funcs.toList.all fun fn => fn.name != "runtime.NumGoroutine") = true := by kernel_rfl
theorem name_ok (f : FuncId) (fn : Func) (h : Tryz.prog.funcs[f]? = some fn) : fn.name ≠ "runtime.NumGoroutine" := by
  have := List.all_eq_true.1 names fn (List.mem_of_getElem? (by rw [Array.getElem?_toList]; exact h))
  simpa using this
theorem mixed_ok : Tryz.prog.follows .mixedOrders = true := by kernel_rfl
theorem hTpl (ts : Nat → Nat) : Tpl 15 (fun i => (tplK ts K).blk i) (tplK ts K) := tplK_tpl (K := K) K_clo
theorem good0 (ts : Nat → Nat) : Good E0 (fun i => (tplK ts K).blk i) where
  name := name_ok
  mixed := mixed_ok
  sm := fun f g args v bs s β w cargs h => by cases h
  xt := fun f g args v fn h hv hf hb β s w cargs hr hl => by
    have h : (match Nat.beq f 349 with | true => some xtIdx | false => none) = some g := h
    split at h
    · rename_i hf'
      have hf' := Nat.eq_of_beq_eq_true hf'
      subst hf'
      cases h
      have hf : Tryz.prog.funcs[349]? = some fn := hf
      rw [Tryz.func349] at hf
      cases hf
      exact xtIdx_ok (P := Tryz.prog) Tryz.func349 hb (name_ok 349 _ Tryz.func349) (by rfl) (by rfl) hv hl w
    · cases h

def isTrue : Option (En × St) → Bool
  | some (.ret (.bool true), _) => true
  | _ => false
theorem known_calls {E : Env} (hP : E.P = Tryz.prog) (hn : E.nC = 15) (good : ∀ ts, Good E (fun i => (tplK ts K).blk i)) (known : ∀ ts, isTrue ((fx E 100000000).call 6 [] (tplK ts K)) = true) {W : World} (h : laidMet Tryz.prog Rows.asmKnownRow.laid W) :
    Calls Tryz.prog 6 #[] W fun e W' => e = .returned (.bool true) ∧ W'.os = W.os ∧ W'.output = W.output ∧ W.heap.size ≤ W'.heap.size ∧ ∀ k : Nat, k < W.heap.size → W'.heap[k]? = W.heap[k]? := by
  obtain ⟨ts, β, hr⟩ := laid_rel h
  have hk := known ts
  rw [← callD_fx] at hk
  obtain ⟨P, nC, sm, xt⟩ := E
  simp only at hP hn
  subst hP hn
  cases hc : callD (⟨Tryz.prog, 15, sm, xt⟩ : Env) 100000000 6 [] (tplK ts K) with
  | none => rw [hc] at hk; cases hk
  | some p =>
    obtain ⟨en, s'⟩ := p
    rw [hc] at hk
    have hen : en = .ret (.bool true) := by
      cases en with
      | panic v => cases hk
      | ret v =>
        cases v with
        | bool b => cases b with
          | true => rfl
          | false => cases hk
        | _ => cases hk
    subst hen
    rcases (sound (good ts) 100000000).calls 6 [] _ _ _ hc β W [] hr .nil with ⟨fn, _, _, q⟩ | ⟨v, v', q1, q2, q3, q4⟩
    · refine q.mono fun e W' ⟨β', x1, x2⟩ => ?_
      cases e with
      | returned v' =>
        have x2 : VRel β' (.bool true) v' := x2
        refine ⟨by rw [x2.bool_inv], x1.os, x1.output, x1.size, fun k hk => x1.keep k hk fun i bi x hi hl => ?_⟩
        have hd : bi.live = false := by
          rw [tplK_blk] at hi
          obtain ⟨k0, h1, rfl⟩ := Option.map_eq_some_iff.1 hi
          cases k0 <;> rfl
        rw [hd] at hl; cases hl
      | panicked ch => exact x2.elim
      | outgrown => exact x2.elim
    · exfalso
      rw [callFunc_enter (good ts) (f := 6) (fn := Tryz.f6) Tryz.func6 (by kernel_rfl)] at q4
      cases q4
end Go.Proofs.YtjhicjgclbapkaaGreatDoor
end
