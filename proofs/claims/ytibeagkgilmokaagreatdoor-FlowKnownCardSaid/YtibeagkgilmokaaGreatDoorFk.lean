import Derived.Test.YtibeagkgilmokaaGreatDoorDv4
import Derived.Test.YtibeagkgilmokaaGreatDoorRows
import Derived.KernelRfl
import Derived.LaidLaws
import Derived.Test.YtibeagkgilmokaaGreatDoorDv5
section
namespace Go.Proofs.YtibeagkgilmokaaGreatDoor
open Go.Dv Go.Proofs
def K : List (Option (List Value)) := [
  some [.int .i64 26, .int .i64 6],
  some [.int .i64 0, .int .i64 14, .int .i64 16, .int .i64 10],
  some [.int .i64 14, .int .i64 2],
  some [.slice (some ⟨11, 0, none⟩) 9 9],
  some [.int .i64 16, .int .i64 16],
  none,
  some [.iface 416 (.pointer (some ⟨12, 0, none⟩))],
  some [.iface 416 (.pointer (some ⟨13, 0, none⟩))],
  some [.int .u64 1, .int .u64 10, .int .u64 100, .int .u64 1000, .int .u64 10000, .int .u64 100000, .int .u64 1000000, .int .u64 10000000, .int .u64 100000000, .int .u64 1000000000, .int .u64 10000000000, .int .u64 100000000000, .int .u64 1000000000000, .int .u64 10000000000000, .int .u64 100000000000000, .int .u64 1000000000000000, .int .u64 10000000000000000, .int .u64 100000000000000000, .int .u64 1000000000000000000, .int .u64 10000000000000000000],
  some [.int .u8 0, .int .u8 1, .int .u8 28, .int .u8 2, .int .u8 29, .int .u8 14, .int .u8 24, .int .u8 3, .int .u8 30, .int .u8 22, .int .u8 20, .int .u8 15, .int .u8 25, .int .u8 17, .int .u8 4, .int .u8 8, .int .u8 31, .int .u8 27, .int .u8 13, .int .u8 23, .int .u8 21, .int .u8 19, .int .u8 16, .int .u8 7, .int .u8 26, .int .u8 12, .int .u8 18, .int .u8 6, .int .u8 11, .int .u8 5, .int .u8 10, .int .u8 9],
  some [.int .u8 0, .int .u8 1, .int .u8 56, .int .u8 2, .int .u8 57, .int .u8 49, .int .u8 28, .int .u8 3, .int .u8 61, .int .u8 58, .int .u8 42, .int .u8 50, .int .u8 38, .int .u8 29, .int .u8 17, .int .u8 4, .int .u8 62, .int .u8 47, .int .u8 59, .int .u8 36, .int .u8 45, .int .u8 43, .int .u8 51, .int .u8 22, .int .u8 53, .int .u8 39, .int .u8 33, .int .u8 30, .int .u8 24, .int .u8 18, .int .u8 12, .int .u8 5, .int .u8 63, .int .u8 55, .int .u8 48, .int .u8 27, .int .u8 60, .int .u8 41, .int .u8 37, .int .u8 16, .int .u8 46, .int .u8 35, .int .u8 44, .int .u8 21, .int .u8 52, .int .u8 32, .int .u8 23, .int .u8 11, .int .u8 54, .int .u8 26, .int .u8 40, .int .u8 15, .int .u8 34, .int .u8 20, .int .u8 31, .int .u8 10, .int .u8 25, .int .u8 14, .int .u8 19, .int .u8 9, .int .u8 13, .int .u8 8, .int .u8 7, .int .u8 6],
  some [.int .u8 8, .int .i64 1, .int .i64 4, .int .i64 0, .int .i64 5, .int .i64 7, .int .i64 0, .int .i64 0, .int .i64 0, .int .i64 0, .int .u8 7, .int .i64 4, .int .i64 4, .int .i64 0, .int .i64 6, .int .i64 7, .int .i64 0, .int .i64 0, .int .i64 0, .int .i64 0, .int .u8 9, .int .i64 1, .int .i64 4, .int .i64 0, .int .i64 2, .int .i64 4, .int .i64 0, .int .i64 0, .int .i64 0, .int .i64 0, .int .u8 2, .int .i64 4, .int .i64 4, .int .i64 0, .int .i64 3, .int .i64 4, .int .i64 0, .int .i64 0, .int .i64 0, .int .i64 0, .int .u8 21, .int .i64 1, .int .i64 4, .int .i64 0, .int .i64 2, .int .i64 4, .int .i64 0, .int .i64 5, .int .i64 3, .int .i64 2, .int .u8 24, .int .i64 2, .int .i64 4, .int .i64 0, .int .i64 3, .int .i64 4, .int .i64 0, .int .i64 5, .int .i64 3, .int .i64 2, .int .u8 23, .int .i64 1, .int .i64 4, .int .i64 0, .int .i64 2, .int .i64 4, .int .i64 0, .int .i64 5, .int .i64 3, .int .i64 0, .int .u8 26, .int .i64 2, .int .i64 4, .int .i64 0, .int .i64 3, .int .i64 4, .int .i64 0, .int .i64 5, .int .i64 3, .int .i64 0, .int .u8 13, .int .i64 2, .int .i64 4, .int .i64 0, .int .i64 5, .int .i64 7, .int .i64 0, .int .i64 0, .int .i64 0, .int .i64 0],
  some [.string ⟨⟨[105, 110, 118, 97, 108, 105, 100, 32, 115, 121, 110, 116, 97, 120]⟩⟩],
  some [.string ⟨⟨[118, 97, 108, 117, 101, 32, 111, 117, 116, 32, 111, 102, 32, 114, 97, 110, 103, 101]⟩⟩]
  ]
section
variable {W : World}

/- a laid variable of data without pointers -/
theorem var_krel {β : Bm} {name : String} {g : Nat} {t : TypeId} {cs : Array Value} {fuel n : Nat} {d : DataW Unit} {c : List Value} {p : List MemPlace} (hn : Tryz.prog.globalNamed name = some g)
    (hv : W.var? Tryz.prog name = some cs) (hd : DataW.trod (fun _ => ()) Tryz.prog W 0 (fun _ => true) false fuel t cs.toList = some (d, p)) (hf : flat Tryz.prog n t d = some c) (hs : scalars c = true) :
    g < W.heap.size ∧ ∃ t', KRel β W ⟨g, 0, cs.size⟩ c t' := by
  have hc := flat_trod fuel n t d c cs.toList p hd hf
  unfold World.var? at hv
  rw [hn] at hv
  simp only [Option.bind_some] at hv
  split at hv
  · rename_i cs' t' f hb
    cases hv
    refine ⟨lt_of_get hb, t', cs, f, hb, rfl, by rw [← hc]; simp, fun j v hj => ⟨v, ?_, scalar_refl v (scalars_iff.1 hs j v hj)⟩⟩
    rw [← hc] at hj
    simpa using hj
  · cases hv

theorem var_at {name : String} {g : Nat} {cs : Array Value} (hn : Tryz.prog.globalNamed name = some g) (hv : W.var? Tryz.prog name = some cs) : ∃ t f, W.heap[g]? = some (.cells cs t f) := by
  unfold World.var? at hv
  rw [hn] at hv
  simp only [Option.bind_some] at hv
  split at hv
  · rename_i cs' t' f hb; cases hv; exact ⟨_, _, hb⟩
  · cases hv

/- a variable of one cell -/
theorem one_krel {β : Bm} {g : Nat} {cs : Array Value} {t : TypeId} {f : Nat × Nat} {v v' : Value} (hb : W.heap[g]? = some (.cells cs t f)) (hc : cs.toList = [v']) (hr : VRel β v v') :
    KRel β W ⟨g, 0, cs.size⟩ [v] t := by
  have hs : cs = #[v'] := by apply Array.ext'; simpa using hc
  subst hs
  refine ⟨_, f, hb, rfl, by simp, fun j u hj => ?_⟩
  cases j with
  | zero => simp at hj; subst hj; exact ⟨v', by simp, hr⟩
  | succ j => simp at hj

end
theorem star : "*" ++ "errors.errorString" = "*errors.errorString" := by decide
theorem rowErr (u : TypeId) (h : Tryz.prog.typeName? 3 u = some "*errors.errorString") : u = 416 :=
  typeName_ptr_named (nm := "errors.errorString") (by rw [star]; kernel_rfl) (by kernel_rfl) (by decide) u (by rw [star]; exact h)
theorem c418 : Tryz.prog.cellsOf 418 = 1 := by kernel_rfl
theorem c9 : Tryz.prog.cellsOf 9 = 1 := by kernel_rfl
theorem cel3 : Tryz.prog.cellsOf 327 = 10 := by kernel_rfl
theorem K_clo : cloK 14 K = true := by kernel_rfl
theorem gn0 : Tryz.prog.globalNamed "coxless/bits.codeAt" = some 0 := by kernel_rfl
theorem gt0 : (Tryz.prog.globals[0]?).map (·.type) = some 269 := by kernel_rfl
theorem gn1 : Tryz.prog.globalNamed "coxless/bits.ends" = some 1 := by kernel_rfl
theorem gt1 : (Tryz.prog.globals[1]?).map (·.type) = some 271 := by kernel_rfl
theorem gn2 : Tryz.prog.globalNamed "coxless/bits.parseAt" = some 2 := by kernel_rfl
theorem gt2 : (Tryz.prog.globals[2]?).map (·.type) = some 269 := by kernel_rfl
theorem gn4 : Tryz.prog.globalNamed "coxless/bits.upper" = some 4 := by kernel_rfl
theorem gt4 : (Tryz.prog.globals[4]?).map (·.type) = some 269 := by kernel_rfl
theorem gn9 : Tryz.prog.globalNamed "math/bits.deBruijn32tab" = some 9 := by kernel_rfl
theorem gt9 : (Tryz.prog.globals[9]?).map (·.type) = some 423 := by kernel_rfl
theorem gn10 : Tryz.prog.globalNamed "math/bits.deBruijn64tab" = some 10 := by kernel_rfl
theorem gt10 : (Tryz.prog.globals[10]?).map (·.type) = some 424 := by kernel_rfl
theorem gn8 : Tryz.prog.globalNamed "internal/strconv.uint64pow10" = some 8 := by kernel_rfl
theorem gt8 : (Tryz.prog.globals[8]?).map (·.type) = some 421 := by kernel_rfl
theorem gn3 : Tryz.prog.globalNamed "coxless/sub.rows" = some 3 := by kernel_rfl
theorem gt3 : (Tryz.prog.globals[3]?).map (·.type) = some 322 := by kernel_rfl
theorem gn7 : Tryz.prog.globalNamed "strconv.ErrRange" = some 7 := by kernel_rfl
theorem gt7 : (Tryz.prog.globals[7]?).map (·.type) = some 350 := by kernel_rfl
theorem gn6 : Tryz.prog.globalNamed "strconv.ErrSyntax" = some 6 := by kernel_rfl
theorem gt6 : (Tryz.prog.globals[6]?).map (·.type) = some 350 := by kernel_rfl
def Kc (i : Nat) : List Value := match K[i]? with | some (some c) => c | _ => []
theorem fl0 : flat Tryz.prog 9 269 Rows.laid_coxless_bits_codeAt = some (Kc 0) := by kernel_rfl
theorem fl1 : flat Tryz.prog 9 271 Rows.laid_coxless_bits_ends = some (Kc 1) := by kernel_rfl
theorem fl2 : flat Tryz.prog 9 269 Rows.laid_coxless_bits_parseAt = some (Kc 2) := by kernel_rfl
theorem fl4 : flat Tryz.prog 9 269 Rows.laid_coxless_bits_upper = some (Kc 4) := by kernel_rfl
theorem fl9 : flat Tryz.prog 9 423 Rows.laid_math_bits_deBruijn32tab = some (Kc 9) := by kernel_rfl
theorem fl10 : flat Tryz.prog 9 424 Rows.laid_math_bits_deBruijn64tab = some (Kc 10) := by kernel_rfl
theorem fl8 : flat Tryz.prog 9 421 Rows.laid_internal_strconv_uint64pow10 = some (Kc 8) := by kernel_rfl
def rowsDs3 : List (DataW Unit) := match (Rows.laid_coxless_sub_rows : DataW Unit) with | .slice ds _ => ds | _ => []
theorem rows_eq3 : (Rows.laid_coxless_sub_rows : DataW Unit) = .slice rowsDs3 [] := by kernel_rfl
theorem flx3 : flatA (flat Tryz.prog 9 327) (Tryz.prog.cellsOf 327) rowsDs3 = some (Kc 11) := by kernel_rfl
end Go.Proofs.YtibeagkgilmokaaGreatDoor
end
section
namespace Go.Proofs.YtibeagkgilmokaaGreatDoor
open Go.Dv Go.Proofs

theorem K_at (i : Nat) (c : List Value) (h : K[i]? = some (some c)) : i < 14 ∧ i ≠ 5 ∧ c = Kc i := by
  have hl : K.length = 14 := by kernel_rfl
  refine ⟨?_, ?_, ?_⟩
  · rcases Nat.lt_or_ge i 14 with h1 | h1
    · exact h1
    · rw [List.getElem?_eq_none (by omega)] at h; cases h
  · rintro rfl
    rw [show K[5]? = some none by kernel_rfl] at h; cases h
  · unfold Kc; rw [h]

theorem KRel.mono0 {β : Bm} {W : World} {x : BI} {c : List Value} {t : Nat} (h : KRel (fun _ => none) W x c t) : KRel β W x c t := by
  obtain ⟨cc, f, h1, h2, h3, h4⟩ := h
  exact ⟨cc, f, h1, h2, h3, fun j v hj => let ⟨v', q1, q2⟩ := h4 j v hj; ⟨v', q1, q2.mono fun i x h => by cases h⟩⟩

theorem str_krel {W : World} {a : Addr} {cc : Array Value} {t : Nat} {f : Nat × Nat} {s : ByteArray} {text : List UInt8} (hb : W.heap[a.block]? = some (.cells cc t f)) (hc : cc[a.off]? = some (.string s))
    (hs : s.data.toList = text) : KRel (fun _ => none) W ⟨a.block, a.off, cc.size⟩ [.string ⟨⟨text⟩⟩] t := by
  have he : s = ⟨⟨text⟩⟩ := bytes_beq_iff.1 (by rw [hs]; simp)
  subst he
  refine ⟨cc, f, hb, rfl, ?_, fun j v hj => ?_⟩
  · have := lt_of_get hc
    simp only [List.length_cons, List.length_nil]; omega
  · cases j with
    | zero => simp at hj; subst hj; exact ⟨_, by simpa using hc, .string _⟩
    | succ j => simp at hj

set_option maxRecDepth 100000 in
theorem laid_rel {W : World} (h : laidMet Tryz.prog Rows.flowKnownRow.laid W) : ∃ ts β, Rel Tryz.prog 14 (fun i => (tplK ts K).blk i) β (tplK ts K) W := by
  obtain ⟨ps, hl, _, hok⟩ := h
  obtain ⟨g, t, cs0, f0, p0, q0, hn, ht, hv0, hd0, hl, e0⟩ := hl
  obtain rfl := Option.some.inj (gn0.symm.trans hn)
  obtain rfl := Option.some.inj (gt0.symm.trans ht)
  obtain ⟨g, t, cs1, f1, p1, q1, hn, ht, hv1, hd1, hl, e1⟩ := hl
  obtain rfl := Option.some.inj (gn1.symm.trans hn)
  obtain rfl := Option.some.inj (gt1.symm.trans ht)
  obtain ⟨g, t, cs2, f2, p2, q2, hn, ht, hv2, hd2, hl, e2⟩ := hl
  obtain rfl := Option.some.inj (gn2.symm.trans hn)
  obtain rfl := Option.some.inj (gt2.symm.trans ht)
  obtain ⟨g, t, cs4, f4, p4, q4, hn, ht, hv4, hd4, hl, e4⟩ := hl
  obtain rfl := Option.some.inj (gn4.symm.trans hn)
  obtain rfl := Option.some.inj (gt4.symm.trans ht)
  obtain ⟨g, t, cs9, f9, p9, q9, hn, ht, hv9, hd9, hl, e9⟩ := hl
  obtain rfl := Option.some.inj (gn9.symm.trans hn)
  obtain rfl := Option.some.inj (gt9.symm.trans ht)
  obtain ⟨g, t, cs10, f10, p10, q10, hn, ht, hv10, hd10, hl, e10⟩ := hl
  obtain rfl := Option.some.inj (gn10.symm.trans hn)
  obtain rfl := Option.some.inj (gt10.symm.trans ht)
  obtain ⟨g, t, cs8, f8, p8, q8, hn, ht, hv8, hd8, hl, e8⟩ := hl
  obtain rfl := Option.some.inj (gn8.symm.trans hn)
  obtain rfl := Option.some.inj (gt8.symm.trans ht)
  obtain ⟨g, t, cs3, f3, p3, q3, hn, ht, hv3, hd3, hl, e3⟩ := hl
  obtain rfl := Option.some.inj (gn3.symm.trans hn)
  obtain rfl := Option.some.inj (gt3.symm.trans ht)
  obtain ⟨g, t, cs7, f7, p7, q7, hn, ht, hv7, hd7, hl, e7⟩ := hl
  obtain rfl := Option.some.inj (gn7.symm.trans hn)
  obtain rfl := Option.some.inj (gt7.symm.trans ht)
  obtain ⟨g, t, cs6, f6, p6, q6, hn, ht, hv6, hd6, hl, e6⟩ := hl
  obtain rfl := Option.some.inj (gn6.symm.trans hn)
  obtain rfl := Option.some.inj (gt6.symm.trans ht)
  have ok7 : ∀ u v, cs7.toList = [.iface u v] → Value.okWide Tryz.prog W .any 0 u v := fun u v e => by
    have hs : cs7 = #[.iface u v] := by apply Array.ext'; simpa using e
    subst hs
    refine (hok 7 0 ?_).2 u v (by simpa using World.var?_cell gn7 hv7 0)
    subst e0 e1 e2 e4 e9 e10 e8 e3 e7
    simp [MemPlace.row]
  have ok6 : ∀ u v, cs6.toList = [.iface u v] → Value.okWide Tryz.prog W .any 0 u v := fun u v e => by
    have hs : cs6 = #[.iface u v] := by apply Array.ext'; simpa using e
    subst hs
    refine (hok 6 0 ?_).2 u v (by simpa using World.var?_cell gn6 hv6 0)
    subst e0 e1 e2 e4 e9 e10 e8 e3 e7 e6
    simp [MemPlace.row]
  obtain ⟨a7, s7, c7, hc7, hs7, _, _⟩ := errorString_of_trod Tryz.underlying350 rowErr Tryz.underlying416 Tryz.underlying418 rfl rfl Tryz.underlying9 c418 c9 hd7 ok7
  obtain ⟨hsp7, cc7, t13, fz13, hb13, hcc7⟩ := cell_block hc7
  obtain ⟨a6, s6, c6, hc6, hs6, _, _⟩ := errorString_of_trod Tryz.underlying350 rowErr Tryz.underlying416 Tryz.underlying418 rfl rfl Tryz.underlying9 c418 c9 hd6 ok6
  obtain ⟨hsp6, cc6, t12, fz12, hb12, hcc6⟩ := cell_block hc6
  obtain ⟨fuel3, rfl⟩ : ∃ n, f3 = n + 1 := by
    cases f3 with
    | zero => simp [DataW.trod] at hd3
    | succ n => exact ⟨n, rfl⟩
  have hd3' : DataW.trod (fun _ => ()) Tryz.prog W 0 (fun _ => true) false (fuel3 + 1) 322 cs3.toList = some (.slice rowsDs3 [], p3) := by rw [← rows_eq3]; exact hd3
  obtain ⟨b11, o11, t11, x11, hcs3, hx11b, hx11o, k11⟩ := slice_krel (β := fun _ => none) Tryz.underlying322 hd3' flx3 (by rw [cel3]; omega) (by decide) (by kernel_rfl)
  obtain ⟨l0, t0, k0⟩ := var_krel (β := fun _ => none) gn0 hv0 hd0 fl0 (by kernel_rfl)
  obtain ⟨l1, t1, k1⟩ := var_krel (β := fun _ => none) gn1 hv1 hd1 fl1 (by kernel_rfl)
  obtain ⟨l2, t2, k2⟩ := var_krel (β := fun _ => none) gn2 hv2 hd2 fl2 (by kernel_rfl)
  obtain ⟨l4, t4, k4⟩ := var_krel (β := fun _ => none) gn4 hv4 hd4 fl4 (by kernel_rfl)
  obtain ⟨l9, t9, k9⟩ := var_krel (β := fun _ => none) gn9 hv9 hd9 fl9 (by kernel_rfl)
  obtain ⟨l10, t10, k10⟩ := var_krel (β := fun _ => none) gn10 hv10 hd10 fl10 (by kernel_rfl)
  obtain ⟨l8, t8, k8⟩ := var_krel (β := fun _ => none) gn8 hv8 hd8 fl8 (by kernel_rfl)
  obtain ⟨t3, fz3, hb3⟩ := var_at gn3 hv3
  obtain ⟨t7, fz7, hb7⟩ := var_at gn7 hv7
  obtain ⟨t6, fz6, hb6⟩ := var_at gn6 hv6
  have k13 := str_krel hb13 hcc7 hs7
  have k12 := str_krel hb12 hcc6 hs6
  have lmax := l10
  let β : Bm := fun i => match i with
    | 0 => some ⟨0, 0, cs0.size⟩
    | 1 => some ⟨1, 0, cs1.size⟩
    | 2 => some ⟨2, 0, cs2.size⟩
    | 3 => some ⟨3, 0, cs3.size⟩
    | 4 => some ⟨4, 0, cs4.size⟩
    | 5 => some ⟨5, 0, 0⟩
    | 6 => some ⟨6, 0, cs6.size⟩
    | 7 => some ⟨7, 0, cs7.size⟩
    | 8 => some ⟨8, 0, cs8.size⟩
    | 9 => some ⟨9, 0, cs9.size⟩
    | 10 => some ⟨10, 0, cs10.size⟩
    | 11 => some x11
    | 12 => some ⟨a6.block, a6.off, cc6.size⟩
    | 13 => some ⟨a7.block, a7.off, cc7.size⟩
    | _ => none
  let ts : Nat → Nat := fun i => match i with
    | 0 => t0 | 1 => t1 | 2 => t2 | 3 => t3 | 4 => t4 | 6 => t6 | 7 => t7 | 8 => t8 | 9 => t9 | 10 => t10 | 11 => t11 | 12 => t12 | 13 => t13 | _ => 0
  have r3 : KRel β W ⟨3, 0, cs3.size⟩ (Kc 3) t3 := by
    refine one_krel hb3 hcs3 ?_
    have := VRel.slice (β := β) (i := 11) (o := 0) (l := 9) (c := 9) (x := x11) rfl (by decide)
    rw [hx11b, hx11o] at this
    exact this
  have r7 : KRel β W ⟨7, 0, cs7.size⟩ (Kc 7) t7 := by
    refine one_krel hb7 c7 (.iface ?_)
    have := VRel.ptr (β := β) (i := 13) (o := 0) (x := ⟨a7.block, a7.off, cc7.size⟩) rfl
    obtain ⟨ab, ao, asp⟩ := a7
    simp only at hsp7
    subst hsp7
    exact this
  have r6 : KRel β W ⟨6, 0, cs6.size⟩ (Kc 6) t6 := by
    refine one_krel hb6 c6 (.iface ?_)
    have := VRel.ptr (β := β) (i := 12) (o := 0) (x := ⟨a6.block, a6.off, cc6.size⟩) rfl
    obtain ⟨ab, ao, asp⟩ := a6
    simp only at hsp6
    subst hsp6
    exact this
  have x11lt : x11.b < W.heap.size := by obtain ⟨cc, f, h1, _⟩ := k11; exact lt_of_get h1
  have x13lt := lt_of_get hb13
  have x12lt := lt_of_get hb12
  refine ⟨ts, β, tplK_rel (K := K) (fun i hi => ?_) (fun i c hc => ?_) (fun g hg => ?_) (fun i x hx => ?_)⟩
  · have hl : K.length = 14 := by kernel_rfl
    rw [hl] at hi
    obtain ⟨j, rfl⟩ := Nat.exists_eq_add_of_le hi
    show β (14 + j) = none
    rw [Nat.add_comm]
    rfl
  · obtain ⟨h1, h2x5, rfl⟩ := K_at i c hc
    have : i = 0 ∨ i = 1 ∨ i = 2 ∨ i = 3 ∨ i = 4 ∨ i = 6 ∨ i = 7 ∨ i = 8 ∨ i = 9 ∨ i = 10 ∨ i = 11 ∨ i = 12 ∨ i = 13 := by omega
    rcases this with rfl | rfl | rfl | rfl | rfl | rfl | rfl | rfl | rfl | rfl | rfl | rfl | rfl
    · exact ⟨_, rfl, KRel.mono0 k0⟩
    · exact ⟨_, rfl, KRel.mono0 k1⟩
    · exact ⟨_, rfl, KRel.mono0 k2⟩
    · exact ⟨_, rfl, r3⟩
    · exact ⟨_, rfl, KRel.mono0 k4⟩
    · exact ⟨_, rfl, r6⟩
    · exact ⟨_, rfl, r7⟩
    · exact ⟨_, rfl, KRel.mono0 k8⟩
    · exact ⟨_, rfl, KRel.mono0 k9⟩
    · exact ⟨_, rfl, KRel.mono0 k10⟩
    · exact ⟨_, rfl, KRel.mono0 k11⟩
    · exact ⟨_, rfl, KRel.mono0 k12⟩
    · exact ⟨_, rfl, KRel.mono0 k13⟩
  · have hG : Tryz.prog.globals.size = 11 := by kernel_rfl
    rw [hG] at hg
    have hl : K.length = 14 := by kernel_rfl
    refine ⟨by omega, ?_⟩
    have : g = 0 ∨ g = 1 ∨ g = 2 ∨ g = 3 ∨ g = 4 ∨ g = 5 ∨ g = 6 ∨ g = 7 ∨ g = 8 ∨ g = 9 ∨ g = 10 := by omega
    rcases this with rfl | rfl | rfl | rfl | rfl | rfl | rfl | rfl | rfl | rfl | rfl <;> exact ⟨_, rfl, rfl, rfl⟩
  · rcases Nat.lt_or_ge i 14 with h15 | h15
    · have : i = 0 ∨ i = 1 ∨ i = 2 ∨ i = 3 ∨ i = 4 ∨ i = 5 ∨ i = 6 ∨ i = 7 ∨ i = 8 ∨ i = 9 ∨ i = 10 ∨ i = 11 ∨ i = 12 ∨ i = 13 := by omega
      rcases this with rfl | rfl | rfl | rfl | rfl | rfl | rfl | rfl | rfl | rfl | rfl | rfl | rfl | rfl <;> (cases hx; first | assumption | exact Nat.lt_of_le_of_lt (Nat.le_of_ble_eq_true rfl) lmax)
    · obtain ⟨j, rfl⟩ := Nat.exists_eq_add_of_le h15
      have hx : β (14 + j) = some x := hx
      rw [Nat.add_comm] at hx
      cases hx
end Go.Proofs.YtibeagkgilmokaaGreatDoor
end
section
namespace Go.Proofs.YtibeagkgilmokaaGreatDoor
open Go.Dv Go.Proofs
def xt0 : FuncId → Option (List Value → Option Value) := fun f => match Nat.beq f 178 with | true => some xtIdx | false => none
noncomputable def E0 : Env := { P := Tryz.prog, nC := 14, sm := fun _ => none, xt := xt0 }
theorem names : (Tryz.prog.funcs.toList.all fun fn => fn.name != "runtime.NumGoroutine") = true := by kernel_rfl
theorem name_ok (f : FuncId) (fn : Func) (h : Tryz.prog.funcs[f]? = some fn) : fn.name ≠ "runtime.NumGoroutine" := by
  have := List.all_eq_true.1 names fn (List.mem_of_getElem? (by rw [Array.getElem?_toList]; exact h))
  simpa using this
theorem mixed_ok : Tryz.prog.follows .mixedOrders = true := by kernel_rfl
theorem hTpl (ts : Nat → Nat) : Tpl 14 (fun i => (tplK ts K).blk i) (tplK ts K) := tplK_tpl (K := K) K_clo
theorem good0 (ts : Nat → Nat) : Good E0 (fun i => (tplK ts K).blk i) where
  name := name_ok
  mixed := mixed_ok
  sm := fun f g args v bs s β w cargs h => by cases h
  xt := fun f g args v fn h hv hf hb β s w cargs hr hl => by
    have h : (match Nat.beq f 178 with | true => some xtIdx | false => none) = some g := h
    split at h
    · rename_i hf'
      have hf' := Nat.eq_of_beq_eq_true hf'
      subst hf'
      cases h
      have hf : Tryz.prog.funcs[178]? = some fn := hf
      rw [Tryz.func178] at hf
      cases hf
      exact xtIdx_ok (P := Tryz.prog) Tryz.func178 hb (name_ok 178 _ Tryz.func178) (by rfl) (by rfl) hv hl w
    · cases h

def isTrue : Option (En × St) → Bool
  | some (.ret (.bool true), _) => true
  | _ => false
theorem known_calls {E : Env} (hP : E.P = Tryz.prog) (hn : E.nC = 14) (good : ∀ ts, Good E (fun i => (tplK ts K).blk i)) (known : ∀ ts, isTrue ((fx E 100000000).call 3 [] (tplK ts K)) = true) {W : World} (h : laidMet Tryz.prog Rows.flowKnownRow.laid W) :
    Calls Tryz.prog 3 #[] W fun e W' => e = .returned (.bool true) ∧ W'.os = W.os ∧ W'.output = W.output ∧ W.heap.size ≤ W'.heap.size ∧ ∀ k : Nat, k < W.heap.size → W'.heap[k]? = W.heap[k]? := by
  obtain ⟨ts, β, hr⟩ := laid_rel h
  have hk := known ts
  rw [← callD_fx] at hk
  obtain ⟨P, nC, sm, xt⟩ := E
  simp only at hP hn
  subst hP hn
  cases hc : callD (⟨Tryz.prog, 14, sm, xt⟩ : Env) 100000000 3 [] (tplK ts K) with
  | none => rw [hc] at hk; cases hk
  | some p =>
    obtain ⟨en, s'⟩ := p
    rw [hc] at hk
    have hen : en = .ret (.bool true) := by
      cases en with
      | panic v => cases hk
      | ret v =>
        cases v with
        | bool b => cases b with
          | true => rfl
          | false => cases hk
        | _ => cases hk
    subst hen
    rcases (sound (good ts) 100000000).calls 3 [] _ _ _ hc β W [] hr .nil with ⟨fn, _, _, q⟩ | ⟨v, v', q1, q2, q3, q4⟩
    · refine q.mono fun e W' ⟨β', x1, x2⟩ => ?_
      cases e with
      | returned v' =>
        have x2 : VRel β' (.bool true) v' := x2
        refine ⟨by rw [x2.bool_inv], x1.os, x1.output, x1.size, fun k hk => x1.keep k hk fun i bi x hi hl => ?_⟩
        have hd : bi.live = false := by
          rw [tplK_blk] at hi
          obtain ⟨k0, h1, rfl⟩ := Option.map_eq_some_iff.1 hi
          cases k0 <;> rfl
        rw [hd] at hl; cases hl
      | panicked ch => exact x2.elim
      | outgrown => exact x2.elim
    · exfalso
      rw [callFunc_enter (good ts) (f := 3) (fn := Tryz.f3) Tryz.func3 (by kernel_rfl)] at q4
      cases q4
end Go.Proofs.YtibeagkgilmokaaGreatDoor
end
