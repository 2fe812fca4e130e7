import Derived.Test.YtibeagkgilmokaaGreatDoorDv3
import Derived.Lib.LaidTab
section
/- A drawn order: entries, effects. -/
namespace Go.Dv
section
variable {E : Env} {C : Nat → Option Blk} {ops : Array Oper} {n : Nat} {a0 : Ac} {s s0 : St} {cfg : Nat → Cfg} {ov : Nat → Oper} {rc : Nat → Rec} {β0 β : Bm} {w0 w : World} {act0 act : Act}
  {q : Nat} {X : Nat → Bool}

/- an entry of a new map -/
theorem ins_step (g : Rg E C ops n a0 s s0 cfg ov rc β0 w0 act0) (h : DI E C ops.size a0 s s0 cfg ov rc β0 w0 act0 β q X act w)
    {i : Nat} (hi : i < ops.size) (hm : ∀ j, bit (Region.before ops) i j = true → X j = true) (hX : X i = false) {r : Nat} {kk : Kk} {k u u' : Value} {t : TypeId} {x : BI}
    (hr : rc i = .ins r k u) (hx : β r = some x) (hu : VRel β u u') (ht : kkMap E.P t = some kk) (hk : kk.has k = true) :
    ∃ w', (Instr.mapUpdate t (.map (some x.b)) k u').run E.P w = .ok () w' ∧
      DI E C ops.size a0 s s0 cfg ov rc β0 w0 act0 β q (fun j => if j = i then true else X j) (act.put (ov i).dst undef) w' := by
  obtain ⟨kk', j0, v0, q1, q2, q3, q4, q5, _⟩ := g.insOk hi hr
  have := has_inj hk q3
  subst this
  have hj0 : j0 < ops.size := by omega
  have hX0 : X j0 = true := hm j0 q4
  have hh : (cfg q).s.blk r = some .hole := by
    cases hb : (cfg q).s.blk r with
    | none =>
      have := h.full j0 hj0 r _ v0 q2 (by rw [hb]; simp) i hi k u hr
      rw [hX] at this; cases this
    | some b =>
      by_cases hbh : b = .hole
      · rw [hbh]
      · have := h.full j0 hj0 r _ v0 q2 (by rw [hb]; intro hc; exact hbh (Option.some.inj hc)) i hi k u hr
        rw [hX] at this; cases this
  obtain ⟨x', ob, p1, p2, p3, p4, p5, ⟨ces, clk, es, rfl, e2, e3⟩, p7, p8⟩ := h.priv j0 hj0 hX0 r _ v0 q2 hh
  rw [hx] at p1; cases p1
  -- the key is new
  have hnew : ∀ p ∈ es, p.1 ≠ k := by
    intro p hp hpk
    obtain ⟨j', r1, r2, r3⟩ := (e3 p).1 hp
    have hji : j' ≠ i := by rintro rfl; rw [hX] at r2; cases r2
    rcases Nat.lt_or_ge j' i with hlt | hge
    · exact keyNew_spec hk (g.entries hj0 q2 i (by omega)).1 q5 p (mem_insOf.2 ⟨j', mem_recsN.2 ⟨hlt, r3.symm⟩⟩) hpk
    · obtain ⟨kk2, j2, v2, s1, s2, s3, s4, s5, _⟩ := g.insOk r1 r3
      have := g.iduniq hj0 (by omega : j2 < ops.size) q2 s2
      subst this
      rw [q2] at s2; cases s2
      exact keyNew_spec s3 (g.entries hj0 q2 j' (by omega)).1 s5 (k, u) (mem_insOf.2 ⟨i, mem_recsN.2 ⟨by omega, hr.symm⟩⟩) hpk.symm
  obtain ⟨ces', clk', m1, m2⟩ := mset_run ht p5 e2 hk hu
  rw [mapSet_new hk e2.keys hnew] at m1
  refine ⟨_, m2, ?_⟩
  obtain ⟨t1, t2, t3, t4⟩ := tmX_put g h hi hX (fun _ _ h => h) (v' := undef) (by rw [hr]; exact undef_rel β)
  have up : ∀ {j}, j ≠ i → (if j = i then true else X j) = true → X j = true := fun hj hx => by rw [if_neg hj] at hx; exact hx
  have gp : (putB w x.b (.map ces' clk')).heap[x.b]? = some (.map ces' clk') := by rw [putB_get]; simp [lt_of_get p5]
  have ext : Ext E.P E.nC C β0 s w0 β (cfg q).s (putB w x.b (.map ces' clk')) :=
    { mono := h.ext.mono, rel := map_rel h.ext.rel p5 p8, size := by rw [putB_size]; exact h.ext.size
      keep := fun b hb hne => by rw [putB_get, if_neg (by omega)]; exact h.ext.keep b hb hne
      os := h.ext.os, output := h.ext.output, tape := h.ext.tape, grow := h.ext.grow, holes := h.ext.holes, unhole := h.ext.unhole, new := h.ext.new, rangeL := h.ext.rangeL, rangeO := h.ext.rangeO }
  exact
    { ext, qN := h.qN, grow := h.grow, size := t1, df := t2, tmX := t3, tm0 := t4
      eff := fun j hj he => by
        have hji : j ≠ i := by rintro rfl; obtain ⟨v, hv⟩ := he; rw [hr] at hv; cases hv
        simp only [if_neg hji]; exact h.eff j hj he
      unal := fun j hj hx id b v hr' => by
        have hji : j ≠ i := by rintro rfl; rw [hr] at hr'; cases hr'
        simp only [if_neg hji] at hx; exact h.unal j hj hx id b v hr'
      priv := fun j hj hx' id b v hr' hh' => by
        have hji : j ≠ i := by rintro rfl; rw [hr] at hr'; cases hr'
        by_cases hid : id = r
        · subst hid
          have := g.iduniq hj0 hj q2 hr'
          subst this
          rw [q2] at hr'; cases hr'
          refine ⟨x, .map ces' clk', hx, p2, p3, p4, gp, ⟨ces', clk', _, rfl, m1, fun p => ?_⟩, p7, p8⟩
          simp only [List.mem_append, List.mem_singleton]
          constructor
          · rintro (hp | rfl)
            · obtain ⟨j', r1, r2, r3⟩ := (e3 p).1 hp
              refine ⟨j', r1, ?_, r3⟩
              show (if j' = i then true else X j') = true
              split
              · rfl
              · exact r2
            · exact ⟨i, hi, by simp, hr⟩
          · rintro ⟨j', r1, r2, r3⟩
            by_cases hji' : j' = i
            · subst hji'
              rw [hr] at r3; cases r3
              exact .inr rfl
            · simp only [if_neg hji'] at r2
              exact .inl ((e3 p).2 ⟨j', r1, r2, r3⟩)
        · obtain ⟨x2, ob2, s1, s2, s3, s4, s5, s6, s7, s8⟩ := h.priv j hj (up hji hx') id b v hr' hh'
          have hjj : j ≠ j0 := by rintro rfl; rw [q2] at hr'; cases hr'; exact hid rfl
          have hne : x2.b ≠ x.b := h.dist j j0 hj hj0 (up hji hx') hX0 id b v r _ v0 x2 x hr' q2 hid hh' hh s1 hx
          refine ⟨x2, ob2, s1, s2, s3, s4, by rw [putB_get, if_neg (fun hc => hne hc.1.symm)]; exact s5, s6.mono (fun _ _ h => h) (fun j' hj' k' u2 hr'' => ?_), s7, s8⟩
          have : j' ≠ i := by rintro rfl; rw [hr] at hr''; cases hr''; exact hid rfl
          simp only [if_neg this]
      full := fun j hj id b v hr' hh' j' hj' k' u2 hr'' => by
        have := h.full j hj id b v hr' hh' j' hj' k' u2 hr''
        show (if j' = i then true else X j') = true
        split
        · rfl
        · exact this
      dist := fun j j' hj hj' hx1 hx2 id1 b1 v1 id2 b2 v2 y y' hr1 hr2 hne hh1 hh2 hy1 hy2 => by
        have a1 : j ≠ i := by rintro rfl; rw [hr] at hr1; cases hr1
        have a2 : j' ≠ i := by rintro rfl; rw [hr] at hr2; cases hr2
        exact h.dist j j' hj hj' (up a1 hx1) (up a2 hx2) id1 b1 v1 id2 b2 v2 y y' hr1 hr2 hne hh1 hh2 hy1 hy2 }

/- ahead of an effect that is ready, all effects of the text are done -/
theorem eff_ready (g : Rg E C ops n a0 s s0 cfg ov rc β0 w0 act0) (h : DI E C ops.size a0 s s0 cfg ov rc β0 w0 act0 β q X act w)
    {i : Nat} (hi : i < ops.size) (hm : ∀ j, bit (Region.before ops) i j = true → X j = true) (hX : X i = false) (he : IsE rc i) : q ≤ i ∧ (∀ j, q ≤ j → j < i → ¬ IsE rc j) := by
  have hqi : q ≤ i := by
    rcases Nat.lt_or_ge i q with hlt | hge
    · have := (h.eff i hi he).2 hlt
      rw [hX] at this; cases this
    · exact hge
  refine ⟨hqi, fun j hqj hji hej => ?_⟩
  obtain ⟨l, l1, l2⟩ := g.T.suffix q i hqi (by simp; omega)
  obtain ⟨f1, f2, f3⟩ := g.T.effs i (by simp; omega)
  have hmem := f2 j hji hej
  rw [l1] at hmem
  cases l with
  | nil =>
    have := (g.T.effs q (by have := h.qN; simp; omega)).1 _ hmem
    simp at this; omega
  | cons y l =>
    obtain ⟨e', st'⟩ := y
    obtain ⟨m1, m2⟩ := l2 _ List.mem_cons_self
    -- the effects, from the last to i
    obtain ⟨l3, n1, n2⟩ := g.T.suffix (i + 1) ops.size (by omega) (by simp)
    have hie : (cfg (i + 1)).effs = (i, (cfg (i + 1)).s) :: (cfg i).effs := by
      rcases (g.stp hi).eff with ⟨_, h2⟩ | ⟨h2, _⟩
      · exact h2
      · exact absurd he h2
    have hall : (cfg ops.size).effs.reverse = (l ++ (cfg q).effs).reverse ++ (e', st') :: (i, (cfg (i + 1)).s) :: l3.reverse := by
      rw [n1, hie, l1]
      simp
    have hb := chainOk_spec g.chain _ _ _ _ _ _ hall
    have hXe := hm e' hb
    have hemem : (e', st') ∈ (cfg i).effs := by rw [l1]; simp
    have heE := (f1 _ hemem).2.1
    have := (h.eff e' (by simp at m2; omega) heE).1 hXe
    simp at m1; omega

/- an effect -/
theorem eff_step (g : Rg E C ops n a0 s s0 cfg ov rc β0 w0 act0) (h : DI E C ops.size a0 s s0 cfg ov rc β0 w0 act0 β q X act w)
    {i : Nat} (hi : i < ops.size) (hm : ∀ j, bit (Region.before ops) i j = true → X j = true) (hX : X i = false) {v0 v' : Value} (he : rc i = .eff v0) {F : St}
    (hF : F = fillS (recsN rc i) ((Region.before ops).getD i 0) (recsN rc i) (cfg i).s) {β' : Bm} {w' : World} :
    Fil E C ops.size (cfg q).s rc β w X ((Region.before ops).getD i 0) i F ∧ (Ext E.P E.nC C β F w β' (cfg (i + 1)).s w' → VRel β' v0 v' →
      DI E C ops.size a0 s s0 cfg ov rc β0 w0 act0 β' (i + 1) (fun j => if j = i then true else X j) (act.put (ov i).dst v') w') := by
  have hE : IsE rc i := ⟨v0, he⟩
  obtain ⟨hqi, hno⟩ := eff_ready g h hi hm hX hE
  have hsame : (cfg i).s = (cfg q).s := g.T.still hqi (by simp; omega) hno
  -- no entry behind the effect of a map that it knows
  have hlate : ∀ j id b v, j < ops.size → rc j = .alloc id b v → ((Region.before ops).getD i 0).testBit j = true → ∀ j', j' < ops.size → ∀ k u, rc j' = .ins id k u → j' < i := by
    intro j id b v hj hr hb j' hj' k u hr'
    rcases Nat.lt_or_ge j' i with hlt | hge
    · exact hlt
    · exfalso
      have hne : j' ≠ i := by rintro rfl; rw [he] at hr'; cases hr'
      have h1 := lateOk_spec g.late j' id k u (mem_recsN.2 ⟨hj', hr'.symm⟩)
      have h2 := lateOne_spec h1 i v0 (mem_recsN.2 ⟨hi, he.symm⟩) (by omega)
      have h3 := allocIn_spec h2 j b v (mem_recsN.2 ⟨hj, hr.symm⟩)
      rw [hb] at h3; cases h3
  have hf : Fil E C ops.size (cfg q).s rc β w X ((Region.before ops).getD i 0) i F := by
    rw [hF, hsame]
    exact fil g h (by omega) (fun j hj hb => hm j hb) (fun j id b v hj hr hb => hlate j id b v (by omega) hr hb)
  refine ⟨hf, fun hx hv => ?_⟩
  have hsx := (hf.ext g h).trans hx
  obtain ⟨t1, t2, t3, t4⟩ := tmX_put g h hi hX hx.mono (v' := v') (by rw [he]; exact hv)
  have up : ∀ {j}, j ≠ i → (if j = i then true else X j) = true → X j = true := fun hj hx => by rw [if_neg hj] at hx; exact hx
  have hFn : F.n = (cfg q).s.n := hf.n
  have idF : ∀ j id b v, j < ops.size → rc j = .alloc id b v → id < F.n := fun j id b v hj hr => by have := (g.idlt hj hr).2; have := h.grow; omega
  -- what is reserved still, was so
  have back : ∀ j id b v, j < ops.size → rc j = .alloc id b v → (cfg (i + 1)).s.blk id = some .hole → F.blk id = some .hole ∧ (cfg q).s.blk id = some .hole := by
    intro j id b v hj hr hh
    have h1 := hx.unhole id (idF j id b v hj hr) hh
    refine ⟨h1, ?_⟩
    rcases hf.blk id with q1 | ⟨q0, _⟩
    · rw [← q1]; exact h1
    · exact q0
  have ji : ∀ j id b v, rc j = .alloc id b v → j ≠ i := by rintro j id b v hr rfl; rw [he] at hr; cases hr
  exact
    { ext := hsx, qN := by omega, grow := by have := hx.grow; have := h.grow; omega, size := t1, df := t2, tmX := t3, tm0 := t4
      eff := fun j hj hej => by
        by_cases hji : j = i
        · subst hji; simp
        · simp only [if_neg hji]
          rw [h.eff j hj hej]
          constructor
          · intro hlt; omega
          · intro hlt
            rcases Nat.lt_or_ge j q with h1 | h1
            · exact h1
            · exact absurd hej (hno j h1 (by omega))
      unal := fun j hj hxj id b v hr => by
        have hji := ji j id b v hr
        simp only [if_neg hji] at hxj
        obtain ⟨q1, q2⟩ := h.unal j hj hxj id b v hr
        have hFh : F.blk id = some .hole := by
          rcases hf.blk id with r1 | ⟨_, j', b', v', r1, r2, r3, _⟩
          · rw [r1]; exact q2
          · have := g.iduniq hj r1 hr r3
            subst this
            rw [hxj] at r2; cases r2
        exact ⟨by rw [hx.new id (idF j id b v hj hr)]; exact q1, hx.holes id hFh⟩
      priv := fun j hj hxj id b v hr hh => by
        have hji := ji j id b v hr
        obtain ⟨b1, b2⟩ := back j id b v hj hr hh
        obtain ⟨x, ob, p1, p2, p3, p4, p5, p6, p7, p8⟩ := h.priv j hj (up hji hxj) id b v hr b2
        -- no own block of F stands there
        have ownF : ∀ k bi y, F.blk k = some bi → bi.own = true → β k = some y → y.b ≠ x.b := by
          intro k bi y hb ho hy
          rcases hf.blk k with r1 | ⟨r0, j', b', v', r1, r2, r3, r4, r5, r6⟩
          · rw [r1] at hb; exact p8 k bi y hb ho hy
          · have hne : k ≠ id := by rintro rfl; exact r6 b1
            exact h.dist j' j r1 hj r2 (up hji hxj) k b' v' id b v y x r3 hr hne r0 b2 hy p1
        have lo : ∀ b : Blk, b.live = true → b.own = true := by
          intro b h
          cases b with
          | cells c e l a f => simp only [Blk.live] at h; simp [Blk.own, h]
          | map => rfl
          | hole => cases h
        have hxb : x.b < w.heap.size := lt_of_get p5
        refine ⟨x, ob, hx.mono _ _ p1, p2, p3, p4, ?_, p6.mono hx.mono (fun j' hj' k u hr' => ?_), p7, fun k bi y hb ho hy => ?_⟩
        · rw [hx.keep x.b hxb (fun k bi y hb hl hy => ownF k bi y hb (lo _ hl) hy)]; exact p5
        · have : j' ≠ i := by rintro rfl; rw [he] at hr'; cases hr'
          simp only [if_neg this]
        · rcases hx.rangeO k bi y hb ho hy with r1 | ⟨k', bk, z, r1, r2, r3, r4⟩
          · omega
          · rw [← r4]; exact ownF k' bk z r1 r2 r3
      full := fun j hj id b v hr hh j' hj' k u hr' => by
        show (if j' = i then true else X j') = true
        split
        · rfl
        · by_cases hFh : F.blk id = some .hole
          · exact absurd (hx.holes id hFh) hh
          · rcases hf.blk id with r1 | ⟨r0, j2, b2, v2, r1, r2, r3, r4, r5, r6⟩
            · exact h.full j hj id b v hr (by rw [← r1]; exact hFh) j' hj' k u hr'
            · have hlt := hlate j2 id b2 v2 r1 r3 r4 j' hj' k u hr'
              exact hm j' (insIn_spec r5 j' k u (mem_recsN.2 ⟨hlt, hr'.symm⟩))
      dist := fun j j' hj hj' hx1 hx2 id1 b1 v1 id2 b2 v2 y y' hr1 hr2 hne hh1 hh2 hy1 hy2 => by
        have a1 := ji j id1 b1 v1 hr1
        have a2 := ji j' id2 b2 v2 hr2
        obtain ⟨_, c1⟩ := back j id1 b1 v1 hj hr1 hh1
        obtain ⟨_, c2⟩ := back j' id2 b2 v2 hj' hr2 hh2
        have e1 : β id1 = some y := by rw [← hx.new id1 (idF j id1 b1 v1 hj hr1)]; exact hy1
        have e2 : β id2 = some y' := by rw [← hx.new id2 (idF j' id2 b2 v2 hj' hr2)]; exact hy2
        exact h.dist j j' hj hj' (up a1 hx1) (up a2 hx2) id1 b1 v1 id2 b2 v2 y y' hr1 hr2 hne c1 c2 e1 e2 }

end
end Go.Dv
end
section
/- A drawn order: the region. -/
namespace Go.Dv
section
variable {E : Env} {C : Nat → Option Blk}

theorem staticOk_spec {ops : Array Oper} (h : staticOk ops = true) : (∀ i j, i < ops.size → j < ops.size → pairOk (Region.before ops) ops i j = true) ∧
    (∀ i o, ops[i]? = some o → ∀ e ∈ o.after.toList, Region.binds .any e = true → e.on < i) := by
  simp only [staticOk, List.all_eq_true, List.mem_range, Bool.and_eq_true] at h
  refine ⟨fun i j hi hj => (h i hi).2 j hj, fun i o ho e he hb => ?_⟩
  have hi : i < ops.size := by
    rcases Nat.lt_or_ge i ops.size with h | h
    · exact h
    · rw [Array.getElem?_eq_none h] at ho; cases ho
  have h1 := (h i hi).1
  simp only [afterOk, ho, List.all_eq_true] at h1
  have := h1 e he
  rw [hb] at this
  simp only [Bool.not_true, Bool.false_or] at this
  exact Nat.le_of_ble_eq_true this

theorem mask_all (N j : Nat) : (Nat.sub (Nat.shiftLeft 1 N) 1).testBit j = decide (j < N) := by
  show ((1 <<< N) - 1).testBit j = decide (j < N)
  rw [Nat.one_shiftLeft, Nat.testBit_two_pow_sub_one]

theorem draw_step (_G : Good E C) {n : Nat} {ops : Array Oper} {a0 : Ac} {s s0 : St} {cfg : Nat → Cfg} {ov : Nat → Oper} {rc : Nat → Rec} {β0 : Bm} {w0 w : World} {act0 act : Act} {β : Bm} {q : Nat} {X : Nat → Bool}
    (g : Rg E C ops n a0 s s0 cfg ov rc β0 w0 act0) (h : DI E C ops.size a0 s s0 cfg ov rc β0 w0 act0 β q X act w) (Q : Exit → Act → World → Prop)
    (hcl : ∀ i, X i = true → ∀ j, bit (Region.before ops) i j = true → X j = true) {i : Nat} (hX : X i = false) (hi : i < ops.size) (hm : ∀ j, bit (Region.before ops) i j = true → X j = true) :
    wpOp E.P ops Q i (fun act' w' => ∃ β' q', DI E C ops.size a0 s s0 cfg ov rc β0 w0 act0 β' q' (fun j => if j = i then true else X j) act' w') act w := by
  unfold wpOp
  rw [g.op hi]
  simp only
  have hev := evs_i g h hcl hi hX hm
  rcases (g.stp hi).did with ⟨hg, h1, _⟩ | ⟨hg, k, hk, hd⟩
  · rw [guard_i g h hcl hi hX hm hg, if_neg (by simp)]
    exact ⟨β, q, still_step g h hi hX (by rw [h1]; exact undef_rel β) (by rintro ⟨v, hv⟩; rw [h1] at hv; cases hv) (fun id b v hv => by rw [h1] at hv; cases hv) (fun id b v hv => by rw [h1] at hv; cases hv)⟩
  · rw [guard_i g h hcl hi hX hm hg, if_pos rfl]
    refine .inl ?_
    have hok := opK_ok (nC := E.nC) (C := C) hev hk
    unfold Oper.wp
    cases k with
    | pure v =>
      obtain ⟨v', h1, h2⟩ := hok w
      rw [h2]
      have hr := hd.1
      exact ⟨β, q, still_step g h hi hX (by rw [hr]; exact h1) (by rintro ⟨v, hv⟩; rw [hr] at hv; cases hv) (fun id b v hv => by rw [hr] at hv; cases hv) (fun id b v hv => by rw [hr] at hv; cases hv)⟩
    | read r =>
      obtain ⟨⟨v, hr⟩, _⟩ := hd
      have hro := readsOk_spec g.reads (mem_recsN.2 ⟨hi, hr.symm⟩)
      obtain ⟨l, l1, l2⟩ := g.T.suffix q ops.size h.qN (by simp)
      obtain ⟨f1, f2, f3⟩ := g.T.effs q (by simpa using h.qN)
      have hrd := readOk_spec _ none s0 hro (cfg q).effs.reverse l.reverse (by rw [l1]; simp) (fun e he => by
        rw [List.getLast?_reverse] at he
        cases hq : (cfg q).effs with
        | nil => rw [hq] at he; simp at he
        | cons p ps =>
          rw [hq] at he
          simp at he
          obtain ⟨m1, m2, _⟩ := f1 p (by rw [hq]; exact List.mem_cons_self)
          rw [he] at m1 m2
          have hXe := (h.eff e (by have := h.qN; omega) m2).2 m1
          cases hb : bit (Region.before ops) e i with
          | false => rfl
          | true => have := hcl e hXe i hb; rw [hX] at this; cases this) (fun e' s' l' hl => by
        have hmem : (e', s') ∈ l := by
          have : (e', s') ∈ l.reverse := by rw [hl]; exact List.mem_cons_self
          simpa using this
        obtain ⟨m1, m2⟩ := l2 _ hmem
        have hN : (e', s') ∈ (cfg ops.size).effs := by rw [l1]; simp [hmem]
        have hE := ((g.T.effs ops.size (by simp)).1 _ hN).2.1
        cases hb : bit (Region.before ops) i e' with
        | false => rfl
        | true =>
          have := (h.eff e' m2 hE).1 (hm e' hb)
          simp at m1; omega)
      have hst : (match (cfg q).effs.reverse.getLast? with | some (_, st) => st | none => s0) = (cfg q).s := by
        rw [List.getLast?_reverse, f3]
        cases (cfg q).effs <;> rfl
      have hrd := (congrArg (fun st => rdVal (fillS (recsN rc ops.size) ((Region.before ops).getD i 0) (recsN rc ops.size) st) r) hst).symm.trans hrd
      have hf := fil g h (mask := (Region.before ops).getD i 0) (Nat.le_refl _) (fun j hj hb => hm j hb) (fun j id b v hj hr hb j' hj' k u hr' => hj')
      obtain ⟨v', h1, h2⟩ := hok _ w hf.rel v hrd
      rw [h2]
      exact ⟨β, q, still_step g h hi hX (by rw [hr]; exact h1) (by rintro ⟨v, hv⟩; rw [hr] at hv; cases hv) (fun id b v hv => by rw [hr] at hv; cases hv) (fun id b v hv => by rw [hr] at hv; cases hv)⟩
    | alloc b m =>
      obtain ⟨hr, _, hpl, _⟩ := hd
      obtain ⟨h1, h2, h3⟩ := hok
      obtain ⟨ob, h4, h5⟩ := h3 w
      rw [h5]
      exact ⟨_, q, alloc_step g h hcl hi hX hr h1 h2 h4 hpl⟩
    | ins kk r k u =>
      have hr := hd.1
      obtain ⟨kk', _, _, _, _, q3, _, _, hk2, _⟩ := g.insOk hi hr
      rw [hk] at hk2
      cases hk2
      obtain ⟨x, v', t, h1, h2, h3, h4⟩ := hok
      obtain ⟨w', h5, h6⟩ := ins_step g h hi hm hX hr h1 h2 h3 q3
      rw [h4 q3 w, h5]
      exact ⟨β, q, h6⟩
    | eff e b =>
      obtain ⟨v, m, hmn, hrun, hr, _⟩ := hd
      rw [g.T.recs i (by simp; omega)] at hrun
      obtain ⟨hf, hnext⟩ := eff_step g h hi hm hX hr (v' := undef) rfl (β' := β) (w' := w)
      refine g.run m hmn _ _ _ _ hrun β w act (ov i) hf.rel hok _ Q (fun v1 hv1 β' v' w' hx hv => ?_) (fun v1 hv1 => by cases hv1)
      cases hv1
      exact ⟨β', i + 1, (eff_step g h hi hm hX hr rfl).2 hx hv⟩
    | call f args =>
      obtain ⟨v, m, hmn, hrun, hr, _⟩ := hd
      rw [g.T.recs i (by simp; omega)] at hrun
      obtain ⟨hf, hnext⟩ := eff_step g h hi hm hX hr (v' := undef) rfl (β' := β) (w' := w)
      refine g.run m hmn _ _ _ _ hrun β w act (ov i) hf.rel hok _ Q (fun v1 hv1 β' v' w' hx hv => ?_) (fun v1 hv1 => by cases hv1)
      cases hv1
      exact ⟨β', i + 1, (eff_step g h hi hm hX hr rfl).2 hx hv⟩
    | _ => exact hd.elim

theorem draw_ok (G : Good E C) {n : Nat} (hs : ∀ m, m ≤ n → Sound E C m) : DrawOk E C (n + 1) := by
  intro id ops a s ex a' s' hd β w act hr ha
  simp only [codeD] at hd
  split at hd
  · cases hd
  · rename_i hst
    obtain ⟨hpair, hafter⟩ := staticOk_spec hst
    split at hd
    · cases hd
    · rename_i a1 recs effs hdraw
      split at hd
      · rename_i hch hlate hreads
        simp only [Option.some.injEq, Prod.mk.injEq] at hd
        obtain ⟨rfl, rfl, rfl⟩ := hd
        obtain ⟨cfg, c0, c1, c2, c3, hstep⟩ := trace E (Region.before ops) ops.toList n 0 s.n a _ [] [] a1 recs effs (by simpa using hdraw) (by omega)
        have hch2 : ∀ j, ∃ p : Oper × Rec, j < ops.toList.length → StepC E (Region.before ops) ops.toList n j (cfg j) (cfg (j + 1)) p.1 p.2 := by
          intro j
          by_cases hj : j < ops.toList.length
          · obtain ⟨o, rc, h⟩ := hstep j (by omega) hj
            exact ⟨(o, rc), fun _ => h⟩
          · exact ⟨(default, .skip), fun h => absurd h hj⟩
        obtain ⟨f, hf⟩ := Classical.axiomOfChoice hch2
        have hsize : ops.toList.length = ops.size := by simp
        have T : Trc E (Region.before ops) ops.toList n a (holes (nAlloc ops.toList) s) s.n cfg (fun j => (f j).1) (fun j => (f j).2) := ⟨c0, fun j hj => hf j hj⟩
        rw [hsize] at c1 c2 c3
        have hrecs : recs = recsN (fun j => (f j).2) ops.size := by rw [← c2]; exact T.recs ops.size (by simp)
        subst hrecs
        subst c3
        have hr0 : Rel E.P E.nC C β s { w with drawn := w.drawn + 1 } := hr.heap rfl
        have g : Rg E C ops n a s (holes (nAlloc ops.toList) s) cfg (fun j => (f j).1) (fun j => (f j).2) β { w with drawn := w.drawn + 1 } act :=
          { T, hs0 := rfl, pair := hpair, chain := hch, late := hlate, reads := hreads, run := fun m hm => (hs m hm).run, r0 := hr0, ac0 := ha }
        refine wp_region_any G.mixed ?_
        refine wpAny_of (fun X act' w' => ∃ β' q, DI E C ops.size a s (holes (nAlloc ops.toList) s) cfg (fun j => (f j).1) (fun j => (f j).2) β { w with drawn := w.drawn + 1 } act β' q X act' w')
          hafter ?_ ?_ ops.size _ act _ (by simp) ?_ ?_ ?_
        · rintro X act1 w1 i ⟨β1, q, h⟩ hcl hX hi hm
          exact draw_step G g h _ hcl hX hi hm
        · rintro X act1 w1 ⟨β1, q, h⟩ hall
          -- all is done
          have hsame : (cfg ops.size).s = (cfg q).s := by
            refine T.still h.qN (by simp) fun j hqj hj he => ?_
            have := (h.eff j hj he).1 (hall j hj)
            omega
          have hlast : (match (cfg ops.size).effs.reverse.getLast? with | some (_, s) => s | none => holes (nAlloc ops.toList) s) = (cfg q).s := by
            rw [List.getLast?_reverse, ← hsame, (T.effs ops.size (by simp)).2.2]
            cases (cfg ops.size).effs <;> rfl
          have hf := fil g h (mask := Nat.sub (Nat.shiftLeft 1 ops.toList.length) 1) (Nat.le_refl _) (fun j hj _ => hall j hj) (fun j id b v hj hr hb j' hj' k u hr' => hj')
          have hx := hf.ext g h
          refine (congrArg (fun st => PostR E C β s w .normal a1 (fillS (recsN (fun j => (f j).2) ops.size) (Nat.sub (Nat.shiftLeft 1 ops.toList.length) 1) (recsN (fun j => (f j).2) ops.size) st) .normal act1 w1) hlast).mpr ?_
          refine ⟨β1, hx.heapL rfl rfl rfl rfl, trivial, ⟨?_, ?_⟩⟩
          · obtain ⟨t1, t2, t3, t4⟩ := T.tmps ops.size (by simp)
            rw [← c1]
            refine ⟨by rw [t1]; exact h.size, fun t v hv => ?_⟩
            rcases t4 t v hv with ⟨j, hj, hd, rfl⟩ | ⟨h5, h6⟩
            · exact h.tmX j hj (hall j hj) t hd
            · rw [h.tm0 t (fun j hj _ => h5 j hj)]
              exact (ha.tm.get t v h6).mono h.ext.mono
          · obtain ⟨t1, t2, t3, t4⟩ := T.tmps ops.size (by simp)
            rw [← c1, t2, h.df]
            exact ha.df.mono h.ext.mono
        · simp [unl]
          exact Nat.le_trans (List.length_filter_le _ _) (by simp)
        · intro i hi
          rw [Array.getD_eq_getD_getElem?, Array.getElem?_replicate] at hi
          split at hi <;> simp at hi
        · have hX0 : ∀ i, (Array.replicate ops.size false).getD i false = false := by
            intro i
            rw [Array.getD_eq_getD_getElem?, Array.getElem?_replicate]
            split <;> rfl
          have hX0' : (fun i => (Array.replicate ops.size false).getD i false) = fun _ => false := funext hX0
          rw [hX0']
          have hs0 : (cfg 0).s = holes (nAlloc ops.toList) s := by rw [c0]
          have hole0 : ∀ j, j < ops.size → ∀ id b v, (f j).2 = .alloc id b v → (cfg 0).s.blk id = some .hole := by
            intro j hj id b v hr'
            obtain ⟨q1, q2⟩ := g.idlt hj hr'
            rw [holes_n] at q2
            rw [hs0, holes_blk, if_pos ⟨q1, q2⟩]
          refine ⟨β, 0, ?_⟩
          exact
            { ext := by rw [hs0]; exact holes_ext _ hr0
              qN := Nat.zero_le _, grow := by rw [hs0]; exact Nat.le_refl _
              eff := fun j _ _ => by simp
              size := ha.tm.size, df := rfl
              tmX := fun j _ hx => by cases hx
              tm0 := fun t _ => rfl
              unal := fun j hj _ id b v hr' => ⟨hr.out id (g.idlt hj hr').1, hole0 j hj id b v hr'⟩
              priv := fun j _ hx => by cases hx
              full := fun j hj id b v hr' hh => absurd (hole0 j hj id b v hr') hh
              dist := fun j j' _ _ hx => by cases hx }
      · cases hd

/- what the evaluator says, holds -/
theorem sound (G : Good E C) (n : Nat) : Sound E C n := sound_all G (fun _n hs => draw_ok G hs) n n (Nat.le_refl _)

end
end Go.Dv
end
section
/- Summaries: what a function does from the constants alone, it does from every memory. The numbers are changed. -/
namespace Go.Dv

def mpA (g : Nat → Option Nat) : Option Addr → Option (Option Addr)
  | none => some none
  | some ⟨i, o, none⟩ => match g i with | some j => some (some ⟨j, o, none⟩) | none => none
  | _ => none

mutual
def mpV (g : Nat → Option Nat) : Value → Option Value
  | .pointer a => match mpA g a with | some a => some (.pointer a) | none => none
  | .slice a l c => match mpA g a with | some a => some (.slice a l c) | none => none
  | .map none => some (.map none)
  | .map (some i) => match g i with | some j => some (.map (some j)) | none => none
  | .func fn ⟨a⟩ ⟨b⟩ => match mpL g a, mpL g b with | some a, some b => some (.func fn ⟨a⟩ ⟨b⟩) | _, _ => none
  | .iface t v => match mpV g v with | some v => some (.iface t v) | none => none
  | .agg ⟨cs⟩ => match mpL g cs with | some cs => some (.agg ⟨cs⟩) | none => none
  | .tuple ⟨cs⟩ => match mpL g cs with | some cs => some (.tuple ⟨cs⟩) | none => none
  | .bool b => some (.bool b)
  | .int k n => some (.int k n)
  | .string s => some (.string s)
  | .nilFunc => some .nilFunc
  | .nilIface => some .nilIface
  | _ => none
def mpL (g : Nat → Option Nat) : List Value → Option (List Value)
  | [] => some []
  | v :: vs => match mpV g v, mpL g vs with | some v, some vs => some (v :: vs) | _, _ => none
end

theorem mpL_get {g : Nat → Option Nat} : ∀ {l l0 : List Value}, mpL g l = some l0 → l.length = l0.length ∧ ∀ (i : Nat) (v : Value), l[i]? = some v → ∃ v0, l0[i]? = some v0 ∧ mpV g v = some v0 := by
  intro l
  induction l with
  | nil => intro l0 h; simp only [mpL, Option.some.injEq] at h; subst h; exact ⟨rfl, fun i v h => by simp at h⟩
  | cons x l ih =>
    intro l0 h
    simp only [mpL] at h
    split at h
    · rename_i v vs hv hvs
      cases h
      obtain ⟨h1, h2⟩ := ih hvs
      refine ⟨by simp [h1], fun i u hu => ?_⟩
      cases i with
      | zero => simp at hu; subst hu; exact ⟨v, rfl, hv⟩
      | succ i => exact h2 i u (by simpa using hu)
    · cases h

theorem mpV_rel {g : Nat → Option Nat} {β γ : Bm} (hg : ∀ i j x, g i = some j → β i = some x → γ j = some x) {v v' : Value} (h : VRel β v v') : ∀ {v0 : Value}, mpV g v = some v0 → VRel γ v0 v' := by
  have lst : ∀ {a a' : List Value}, (hs : a.length = a'.length) → (∀ (i : Nat) (v v' : Value), a[i]? = some v → a'[i]? = some v' → ∀ {v0 : Value}, mpV g v = some v0 → VRel γ v0 v') →
      ∀ {a0 : List Value}, mpL g a = some a0 → a0.length = a'.length ∧ ∀ (i : Nat) (v v' : Value), a0[i]? = some v → a'[i]? = some v' → VRel γ v v' := by
    intro a a' hs ih a0 h0
    obtain ⟨h1, h2⟩ := mpL_get h0
    refine ⟨by omega, fun i v v' hv hv' => ?_⟩
    have hi : i < a.length := by
      rcases Nat.lt_or_ge i a.length with h | h
      · exact h
      · rw [List.getElem?_eq_none (by omega)] at hv; cases hv
    obtain ⟨v0, q1, q2⟩ := h2 i a[i] (List.getElem?_eq_getElem hi)
    rw [q1] at hv; cases hv
    exact ih i a[i] v' (List.getElem?_eq_getElem hi) hv' q2
  induction h with
  | bool b => intro v0 h; cases h; exact .bool b
  | int k n => intro v0 h; cases h; exact .int k n
  | float k n => intro v0 h; cases h
  | complex k m n => intro v0 h; cases h
  | string s => intro v0 h; cases h; exact .string s
  | nilFunc => intro v0 h; cases h; exact .nilFunc
  | nilIface => intro v0 h; cases h; exact .nilIface
  | ptr0 => intro v0 h; cases h; exact .ptr0
  | ptr hx =>
    intro v0 h
    simp only [mpV, mpA] at h
    split at h
    · rename_i a ha
      split at ha
      · rename_i j hj; cases ha; cases h; exact .ptr (hg _ _ _ hj hx)
      · cases ha
    · cases h
  | slice0 l c => intro v0 h; cases h; exact .slice0 l c
  | slice hx hc =>
    intro v0 h
    simp only [mpV, mpA] at h
    split at h
    · rename_i a ha
      split at ha
      · rename_i j hj; cases ha; cases h; exact .slice (hg _ _ _ hj hx) hc
      · cases ha
    · cases h
  | sliceU hx hl hn =>
    intro v0 h
    simp only [mpV, mpA] at h
    split at h
    · rename_i a ha
      split at ha
      · rename_i j hj; cases ha; cases h; exact .sliceU (hg _ _ _ hj hx) hl hn
      · cases ha
    · cases h
  | sliceE a hc =>
    intro v0 h
    simp only [mpV, mpA] at h
    split at h
    · rename_i a ha
      split at ha
      · rename_i j hj; cases ha; cases h; exact .sliceE _ hc
      · cases ha
    · cases h
  | map0 => intro v0 h; cases h; exact .map0
  | map hx =>
    intro v0 h
    simp only [mpV] at h
    split at h
    · rename_i j hj; cases h; exact .map (hg _ _ _ hj hx)
    · cases h
  | func hs ht _ _ ih ih' =>
    intro v0 h
    simp only [mpV] at h
    split at h
    · rename_i a b ha hb
      cases h
      obtain ⟨p1, p2⟩ := lst hs ih ha
      obtain ⟨q1, q2⟩ := lst ht ih' hb
      exact .func p1 q1 p2 q2
    · cases h
  | iface _ ih =>
    intro v0 h
    simp only [mpV] at h
    split at h
    · rename_i v1 hv; cases h; exact .iface (ih hv)
    · cases h
  | agg hs _ ih =>
    intro v0 h
    simp only [mpV] at h
    split at h
    · rename_i a ha
      cases h
      obtain ⟨p1, p2⟩ := lst hs ih ha
      exact .agg p1 p2
    · cases h
  | tuple hs _ ih =>
    intro v0 h
    simp only [mpV] at h
    split at h
    · rename_i a ha
      cases h
      obtain ⟨p1, p2⟩ := lst hs ih ha
      exact .tuple p1 p2
    · cases h

/- shifted numbers -/
theorem shL_len (nC k : Nat) (l : List Value) : (shL nC k l).length = l.length := by
  induction l with
  | nil => rfl
  | cons v l ih => simp [shL, ih]

theorem shL_get (nC k : Nat) : ∀ (l : List Value) (i : Nat), (shL nC k l)[i]? = (l[i]?).map (shV nC k) := by
  intro l
  induction l with
  | nil => intro i; simp [shL]
  | cons v l ih =>
    intro i
    cases i with
    | zero => simp [shL]
    | succ i => simp [shL, ih]

theorem shV_rel {nC k : Nat} {β γ : Bm} (hg : ∀ i x, β i = some x → γ (if i < nC then i else i + k) = some x) {v v' : Value} (h : VRel β v v') : VRel γ (shV nC k v) v' := by
  have lst : ∀ {a a' : List Value}, (hs : a.length = a'.length) → (∀ (i : Nat) (v v' : Value), a[i]? = some v → a'[i]? = some v' → VRel γ (shV nC k v) v') →
      (shL nC k a).length = a'.length ∧ ∀ (i : Nat) (v v' : Value), (shL nC k a)[i]? = some v → a'[i]? = some v' → VRel γ v v' := by
    intro a a' hs ih
    refine ⟨by rw [shL_len]; exact hs, fun i v v' hv hv' => ?_⟩
    rw [shL_get] at hv
    obtain ⟨u, h1, rfl⟩ := Option.map_eq_some_iff.1 hv
    exact ih i u v' h1 hv'
  induction h with
  | bool b => exact .bool b
  | int k n => exact .int k n
  | float k n => exact .float k n
  | complex k m n => exact .complex k m n
  | string s => exact .string s
  | nilFunc => exact .nilFunc
  | nilIface => exact .nilIface
  | ptr0 => exact .ptr0
  | ptr hx => exact .ptr (hg _ _ hx)
  | slice0 l c => exact .slice0 l c
  | slice hx hc => exact .slice (hg _ _ hx) hc
  | sliceU hx hl hn => exact .sliceU (hg _ _ hx) hl hn
  | sliceE a hc => exact .sliceE a hc
  | map0 => exact .map0
  | map hx => exact .map (hg _ _ hx)
  | func hs ht _ _ ih ih' =>
    obtain ⟨p1, p2⟩ := lst hs ih
    obtain ⟨q1, q2⟩ := lst ht ih'
    exact .func p1 q1 p2 q2
  | iface _ ih => exact .iface ih
  | agg hs _ ih =>
    obtain ⟨p1, p2⟩ := lst hs ih
    exact .agg p1 p2
  | tuple hs _ ih =>
    obtain ⟨p1, p2⟩ := lst hs ih
    exact .tuple p1 p2

/- blocks under other numbers; an elder block must not be named -/
def mpE (g : Nat → Option Nat) : List (Value × Value) → Option (List (Value × Value))
  | [] => some []
  | (a, b) :: es => match mpV g b, mpE g es with | some b, some es => some ((a, b) :: es) | _, _ => none

def mpB (g : Nat → Option Nat) : Blk → Option Blk
  | .cells c e l anc fz => match (match anc with | none => true | some k => (g k).isNone) with
    | true => match mpL g c with | some c => some (.cells c e l none fz) | none => none
    | false => none
  | .map kk es => match mpE g es with | some es => some (.map kk es) | none => none
  | .hole => some .hole

def posOf (i : Nat) : List Nat → Nat → Option Nat
  | [], _ => none
  | j :: js, p => match Nat.beq i j with | true => some p | false => posOf i js (Nat.succ p)

def rnI (nC : Nat) (ids : List Nat) (i : Nat) : Option Nat := match Nat.blt i nC with
  | true => some i
  | false => match posOf i ids 0 with | some p => some (Nat.add nC p) | none => none

def nodupN : List Nat → Bool
  | [] => true
  | i :: is => match posOf i is 0 with | none => nodupN is | some _ => false

def blksOk (nC : Nat) (ids : List Nat) (t : St) : List Nat → Option (List Blk)
  | [] => some []
  | i :: is => match Nat.ble nC i, t.blk i with
    | true, some b => match mpB (rnI nC ids) b, blksOk nC ids t is with
      | some b, some bs => some (b :: bs)
      | _, _ => none
    | _, _ => none

/- a run from the constants, as a summary: the result, the blocks that are named -/
def sumUp (E : Env) (n : Nat) (f : FuncId) (args : List Value) (t : St) (ids : List Nat) : Option (Value × List Blk) :=
  match scalars args, nodupN ids with
  | true, true => match callD E n f args t with
    | some (.ret v, t') => match mpV (rnI E.nC ids) v, blksOk E.nC ids t' ids with
      | some v, some bs => some (v, bs)
      | _, _ => none
    | _ => none
  | _, _ => none

end Go.Dv
end
section
/- A summary serves every memory that stands over the constants. -/
namespace Go.Dv

theorem posOf_spec {i : Nat} : ∀ {is : List Nat} {p q : Nat}, posOf i is p = some q → p ≤ q ∧ is[q - p]? = some i := by
  intro is
  induction is with
  | nil => intro p q h; cases h
  | cons j js ih =>
    intro p q h
    simp only [posOf] at h
    split at h
    · rename_i hij
      cases h
      have := Nat.eq_of_beq_eq_true hij
      exact ⟨Nat.le_refl _, by simp [this]⟩
    · obtain ⟨h1, h2⟩ := ih h
      have h1 : p + 1 ≤ q := h1
      refine ⟨by omega, ?_⟩
      rw [show q - p = (q - Nat.succ p) + 1 by change q - p = (q - (p + 1)) + 1; omega]
      simpa using h2

theorem posOf_none {i : Nat} : ∀ {is : List Nat} {p : Nat}, posOf i is p = none → i ∉ is := by
  intro is
  induction is with
  | nil => intro p h; simp
  | cons j js ih =>
    intro p h
    simp only [posOf] at h
    split at h
    · cases h
    · rename_i hij
      have := ih h
      intro hm
      rcases List.mem_cons.1 hm with rfl | hm
      · simp at hij
      · exact this hm

theorem nodupN_spec {is : List Nat} (h : nodupN is = true) : ∀ p q i : Nat, is[p]? = some i → is[q]? = some i → p = q := by
  induction is with
  | nil => intro p q i hp; simp at hp
  | cons j js ih =>
    simp only [nodupN] at h
    split at h
    · rename_i hn
      have hnm := posOf_none hn
      intro p q i hp hq
      cases p with
      | zero =>
        simp at hp; subst hp
        cases q with
        | zero => rfl
        | succ q => exact absurd (List.mem_of_getElem? (by simpa using hq)) hnm
      | succ p =>
        cases q with
        | zero => simp at hq; subst hq; exact absurd (List.mem_of_getElem? (by simpa using hp)) hnm
        | succ q => exact congrArg Nat.succ (ih h p q i (by simpa using hp) (by simpa using hq))
    · cases h

theorem blksOk_spec {nC : Nat} {ids : List Nat} {t : St} : ∀ {is : List Nat} {bs : List Blk}, blksOk nC ids t is = some bs → bs.length = is.length ∧
    ∀ (p : Nat) (b0 : Blk), bs[p]? = some b0 → ∃ (i : Nat) (b : Blk), is[p]? = some i ∧ nC ≤ i ∧ t.blk i = some b ∧ mpB (rnI nC ids) b = some b0 := by
  intro is
  induction is with
  | nil => intro bs h; simp only [blksOk, Option.some.injEq] at h; subst h; exact ⟨rfl, fun p b h => by simp at h⟩
  | cons i is ih =>
    intro bs h
    simp only [blksOk] at h
    split at h
    · rename_i b hle hb
      split at h
      · rename_i b0 bs0 h1 h2
        cases h
        obtain ⟨q1, q2⟩ := ih h2
        refine ⟨by simp [q1], fun p b1 hp => ?_⟩
        cases p with
        | zero => simp at hp; subst hp; exact ⟨i, b, rfl, Nat.le_of_ble_eq_true hle, hb, h1⟩
        | succ p => exact q2 p b1 (by simpa using hp)
      · cases h
    · cases h

theorem pushAll_n (nC k : Nat) : ∀ (bs : List Blk) (s : St), (pushAll nC k bs s).n = s.n + bs.length := by
  intro bs
  induction bs with
  | nil => intro s; rfl
  | cons b bs ih => intro s; simp only [pushAll]; rw [ih]; simp; omega

theorem pushAll_blk (nC k : Nat) : ∀ (bs : List Blk) (s : St) (j : Nat), (pushAll nC k bs s).blk j = if s.n ≤ j ∧ j < s.n + bs.length then (bs[j - s.n]?).map (shB nC k) else s.blk j := by
  intro bs
  induction bs with
  | nil => intro s j; simp only [pushAll]; rw [if_neg (by simp only [List.length_nil]; omega)]
  | cons b bs ih =>
    intro s j
    simp only [pushAll]
    rw [ih, St.blk_push, St.n_push]
    by_cases h1 : s.n = j
    · subst h1
      rw [if_neg (by omega), if_pos rfl, if_pos (by simp)]
      simp
    · rw [if_neg h1]
      by_cases h2 : s.n + 1 ≤ j ∧ j < s.n + 1 + bs.length
      · rw [if_pos h2, if_pos (by simp only [List.length_cons]; omega)]
        rw [show j - s.n = (j - (s.n + 1)) + 1 by omega]
        simp
      · rw [if_neg h2, if_neg (by simp only [List.length_cons]; omega)]

theorem mpE_spec {g : Nat → Option Nat} : ∀ {es es0 : List (Value × Value)}, mpE g es = some es0 → es.length = es0.length ∧ es.map (·.1) = es0.map (·.1) ∧
    (∀ p ∈ es0, ∃ q ∈ es, q.1 = p.1 ∧ mpV g q.2 = some p.2) ∧ (∀ q ∈ es, ∃ p ∈ es0, p.1 = q.1 ∧ mpV g q.2 = some p.2) := by
  intro es
  induction es with
  | nil => intro es0 h; simp only [mpE, Option.some.injEq] at h; subst h; exact ⟨rfl, rfl, fun p hp => (by cases hp), fun p hp => (by cases hp)⟩
  | cons e es ih =>
    obtain ⟨a, b⟩ := e
    intro es0 h
    simp only [mpE] at h
    split at h
    · rename_i b1 es1 h1 h2
      cases h
      obtain ⟨q1, q2, q3, q4⟩ := ih h2
      refine ⟨by simp [q1], by simp [q2], fun p hp => ?_, fun q hq => ?_⟩
      · rcases List.mem_cons.1 hp with rfl | hp
        · exact ⟨(a, b), List.mem_cons_self, rfl, h1⟩
        · obtain ⟨q, r1, r2⟩ := q3 p hp; exact ⟨q, List.mem_cons_of_mem _ r1, r2⟩
      · rcases List.mem_cons.1 hq with rfl | hq
        · exact ⟨(a, b1), List.mem_cons_self, rfl, h1⟩
        · obtain ⟨p, r1, r2⟩ := q4 q hq; exact ⟨p, List.mem_cons_of_mem _ r1, r2⟩
    · cases h

theorem shE_spec {nC k : Nat} : ∀ (es : List (Value × Value)), (shE nC k es) = es.map fun p => (p.1, shV nC k p.2) := by
  intro es
  induction es with
  | nil => rfl
  | cons e es ih => obtain ⟨a, b⟩ := e; simp [shE, ih]

theorem kdist_keys {es es' : List (Value × Value)} (h : es.map (·.1) = es'.map (·.1)) (hd : KDist es) : KDist es' := by
  have : (es.map (·.1)).Pairwise (fun a b : Value => a ≠ b) := List.pairwise_map.2 hd
  rw [h] at this
  exact List.pairwise_map.1 this

/- one block, under other numbers -/
theorem blk_rel {P : Program} {w : World} {g : Nat → Option Nat} {β β1 γ : Bm} {nC k i j : Nat} {b b0 : Blk} (hb : BRel P β w i b) (hm : mpB g b = some b0)
    (hg1 : ∀ a c x, g a = some c → β a = some x → β1 c = some x) (hg2 : ∀ c x, β1 c = some x → γ (if c < nC then c else c + k) = some x) (hij : ∀ x, β i = some x → γ j = some x) :
    BRel P γ w j (shB nC k b0) ∧ b0.anc = none ∧ (b0.live = true → b.live = true) ∧ (b0.own = true → b.own = true) ∧ (∀ a, b.anc = some a → b.live = true → g a = none) ∧ (b0 = .hole → b = .hole) := by
  have val : ∀ {v v' v0 : Value}, VRel β v v' → mpV g v = some v0 → VRel γ (shV nC k v0) v' := fun hv hmv => shV_rel hg2 (mpV_rel hg1 hv hmv)
  cases b with
  | hole =>
    simp only [mpB, Option.some.injEq] at hm
    subst hm
    exact ⟨trivial, rfl, id, id, fun a h => (by cases h), fun _ => rfl⟩
  | map kk es =>
    simp only [mpB] at hm
    split at hm
    · rename_i es0 hes
      cases hm
      obtain ⟨x, ces, clk, h1, h2, h3⟩ := hb
      obtain ⟨e1, e2, e3, e4⟩ := mpE_spec hes
      refine ⟨⟨x, ces, clk, hij x h1, h2, ?_⟩, rfl, fun _ => rfl, fun _ => rfl, fun a h => (by cases h), fun h => (by cases h)⟩
      rw [shE_spec]
      refine { keys := fun p hp => ?_, dist := ?_, cdist := h3.cdist, fwd := fun p hp => ?_, bwd := fun e he => ?_, len := by simp; rw [← e1]; exact h3.len }
      · obtain ⟨p0, q1, rfl⟩ := List.mem_map.1 hp
        obtain ⟨q, r1, r2, _⟩ := e3 p0 q1
        have := h3.keys q r1
        rw [r2] at this; exact this
      · refine kdist_keys (es := es) ?_ h3.dist
        rw [e2]; simp [List.map_map, Function.comp_def]
      · obtain ⟨p0, q1, rfl⟩ := List.mem_map.1 hp
        obtain ⟨q, r1, r2, r3⟩ := e3 p0 q1
        obtain ⟨e, s1, s2, s3⟩ := h3.fwd q r1
        exact ⟨e, s1, s2.trans r2, val s3 r3⟩
      · obtain ⟨q, s1, s2, s3⟩ := h3.bwd e he
        obtain ⟨p0, r1, r2, r3⟩ := e4 q s1
        exact ⟨_, List.mem_map.2 ⟨p0, r1, rfl⟩, r2.trans s2, val s3 r3⟩
    · cases hm
  | cells c e l anc fz =>
    simp only [mpB] at hm
    split at hm
    · rename_i hanc
      split at hm
      · rename_i c0 hc
        cases hm
        obtain ⟨x, cc, lo, hi, h1, h2, h3, h4, h5, h6⟩ := hb
        obtain ⟨q1, q2⟩ := mpL_get hc
        refine ⟨⟨x, cc, lo, hi, hij x h1, h2, h3, by rw [shL_len, ← q1]; exact h4, fun m v hv => ?_, h6⟩, rfl, id, ?_, fun a ha _ => ?_, fun h => (by cases h)⟩
        · rw [shL_get] at hv
          obtain ⟨u, r1, rfl⟩ := Option.map_eq_some_iff.1 hv
          have hm : m < c.length := by
            rcases Nat.lt_or_ge m c.length with h | h
            · exact h
            · rw [List.getElem?_eq_none (by omega)] at r1; cases r1
          obtain ⟨u0, s1, s2⟩ := q2 m c[m] (List.getElem?_eq_getElem hm)
          rw [r1] at s1; cases s1
          obtain ⟨v', t1, t2⟩ := h5 m c[m] (List.getElem?_eq_getElem hm)
          exact ⟨v', t1, val t2 s2⟩
        · intro ho
          simp only [Blk.own, Bool.or_eq_true, Bool.not_eq_true', List.isEmpty_eq_false_iff] at ho ⊢
          rcases ho with ho | ho
          · exact .inl ho
          · refine .inr fun hh => ho ?_
            subst hh
            exact List.eq_nil_of_length_eq_zero (by simpa using q1.symm)
        · simp only [Blk.anc] at ha
          rw [ha] at hanc
          simpa using hanc
      · cases hm
    · cases hm

/- the state that holds the constants alone -/
structure Tpl (nC : Nat) (C : Nat → Option Blk) (t : St) : Prop where
  n : t.n = nC
  lo : ∀ i, i < nC → t.blk i = C i
  hi : ∀ i, nC ≤ i → t.blk i = none
  clo : ∀ i c e l a f, C i = some (.cells c e l a f) → ∃ c0, mpL (rnI nC []) c = some c0 ∧ c0 = c
  cells : ∀ i b, C i = some b → (∃ c e f, b = .cells c e false none f) ∨ b = .hole

theorem rnI_nil {nC i j : Nat} (h : rnI nC [] i = some j) : i = j ∧ i < nC := by
  unfold rnI at h
  split at h
  · rename_i hlt; cases h; exact ⟨rfl, Nat.le_of_ble_eq_true hlt⟩
  · simp [posOf] at h

theorem rnI_spec {nC i j : Nat} {ids : List Nat} (h : rnI nC ids i = some j) : (i = j ∧ i < nC) ∨ (nC ≤ j ∧ nC ≤ i ∧ ids[j - nC]? = some i) := by
  unfold rnI at h
  split at h
  · rename_i hlt; cases h; exact .inl ⟨rfl, Nat.le_of_ble_eq_true hlt⟩
  · rename_i hlt
    split at h
    · rename_i p hp
      cases h
      obtain ⟨h1, h2⟩ := posOf_spec hp
      have hge : nC ≤ i := by
        rcases Nat.lt_or_ge i nC with h | h
        · rw [show Nat.blt i nC = true from Nat.ble_eq_true_of_le h] at hlt; cases hlt
        · exact h
      refine .inr ⟨Nat.le_add_right _ _, hge, ?_⟩
      rw [show Nat.add nC p - nC = p from by show nC + p - nC = p; omega]
      simpa using h2
    · cases h

section
variable {P : Program} {nC : Nat} {C : Nat → Option Blk} {β : Bm} {s t : St} {w : World}

theorem tpl_rel (hT : Tpl nC C t) (hr : Rel P nC C β s w) : Rel P nC C (fun i => if i < nC then β i else none) t w :=
  { blk := fun i b hb => by
      have hi : i < nC := by
        rcases Nat.lt_or_ge i nC with h | h
        · exact h
        · rw [hT.hi i h] at hb; cases hb
      rw [hT.lo i hi] at hb
      have hB := hr.blk i b (by rw [hr.con i hi]; exact hb)
      rcases hT.cells i b hb with ⟨c, e, f, rfl⟩ | rfl
      · obtain ⟨x, cc, lo, hi', h1, h2, h3, h4, h5, h6⟩ := hB
        obtain ⟨c0, q1, q2⟩ := hT.clo i c e false none f hb
        subst q2
        refine ⟨x, cc, lo, hi', by show (if i < nC then β i else none) = some x; rw [if_pos hi]; exact h1, h2, h3, h4, fun m v hv => ?_, h6⟩
        obtain ⟨v', r1, r2⟩ := h5 m v hv
        obtain ⟨v0, s1, s2⟩ := (mpL_get q1).2 m v hv
        rw [hv] at s1; cases s1
        refine ⟨v', r1, mpV_rel (fun a c x hac hx => ?_) r2 s2⟩
        obtain ⟨rfl, hlt⟩ := rnI_nil hac
        show (if a < nC then β a else none) = some x
        rw [if_pos hlt]; exact hx
      · trivial
    out := fun i hi => by rw [hT.n] at hi; exact if_neg (by omega)
    outB := fun i hi => hT.hi i (by rw [hT.n] at hi; exact hi)
    sep := fun i j bi bj x y hi hl => by
      exfalso
      have hi' : i < nC := by
        rcases Nat.lt_or_ge i nC with h | h
        · exact h
        · rw [hT.hi i h] at hi; cases hi
      rw [hT.lo i hi'] at hi
      have := hr.conL i bi hi' (by rw [hr.con i hi']; exact hi)
      rw [this] at hl; cases hl
    anc := fun i bi k hi hl => by
      exfalso
      have hi' : i < nC := by
        rcases Nat.lt_or_ge i nC with h | h
        · exact h
        · rw [hT.hi i h] at hi; cases hi
      rw [hT.lo i hi'] at hi
      have := hr.conL i bi hi' (by rw [hr.con i hi']; exact hi)
      rw [this] at hl; cases hl
    con := fun i hi => hT.lo i hi
    conL := fun i b hi hb => hr.conL i b hi (by rw [hr.con i hi, ← hT.lo i hi]; exact hb)
    le := by rw [hT.n]; exact Nat.le_refl _
    glob := fun g hg => let ⟨r1, x, r2, r3⟩ := hr.glob g hg; ⟨r1, x, by show (if g < nC then β g else none) = some x; rw [if_pos r1]; exact r2, r3⟩
    bnd := fun i x hx => by
      have hx : (if i < nC then β i else none) = some x := hx
      split at hx
      · exact hr.bnd i x hx
      · cases hx }

theorem BRel.same_mem {w' : World} {i : Nat} {b : Blk} (h : BRel P β w i b) (hk : ∀ k : Nat, k < w.heap.size → w'.heap[k]? = w.heap[k]?) : BRel P β w' i b := by
  cases b with
  | hole => trivial
  | cells c e l a f =>
    obtain ⟨x, cc, lo, hi, h1, h2, h3⟩ := h
    exact ⟨x, cc, lo, hi, h1, by rw [hk _ (lt_of_get h2)]; exact h2, h3⟩
  | map kk es =>
    obtain ⟨x, ces, clk, h1, h2, h3⟩ := h
    exact ⟨x, ces, clk, h1, by rw [hk _ (lt_of_get h2)]; exact h2, h3⟩

theorem sum_ext (hT : Tpl nC C t) (hr : Rel P nC C β s w) {βt : Bm} {t' : St} {w' : World} {ids : List Nat} {bs : List Blk} {v0 v1 v' : Value}
    (hx : Ext P nC C (fun i => if i < nC then β i else none) t w βt t' w') (hv : VRel βt v0 v') (hnd : nodupN ids = true) (hb : blksOk nC ids t' ids = some bs) (hv0 : mpV (rnI nC ids) v0 = some v1) :
    ∃ β', Ext P nC C β s w β' (pushAll nC (s.n - nC) bs s) w' ∧ VRel β' (shV nC (s.n - nC) v1) v' := by
  obtain ⟨hlen, hbs⟩ := blksOk_spec hb
  have hle := hr.le
  -- the constants are not live: what was, stays
  have tlive : ∀ j bj, t.blk j = some bj → bj.live = false := by
    intro j bj hj
    have hj' : j < nC := by
      rcases Nat.lt_or_ge j nC with h | h
      · exact h
      · rw [hT.hi j h] at hj; cases hj
    rw [hT.lo j hj'] at hj
    exact hr.conL j bj hj' (by rw [hr.con j hj']; exact hj)
  have keep : ∀ k : Nat, k < w.heap.size → w'.heap[k]? = w.heap[k]? := fun k hk => hx.keep k hk fun i bi x hi hl => by
    have := tlive i bi hi
    rw [this] at hl; cases hl
  let γ : Bm := fun i => if i < s.n then β i else if i < s.n + bs.length then (ids[i - s.n]?).bind βt else none
  let β1 : Bm := fun c => if c < nC then β c else (ids[c - nC]?).bind βt
  have βt_lo : ∀ i, i < nC → βt i = β i := fun i hi => by rw [hx.new i (by rw [hT.n]; exact hi), if_pos hi]
  have mono : ∀ i x, β i = some x → γ i = some x := by
    intro i x hi
    have : i < s.n := by
      rcases Nat.lt_or_ge i s.n with h | h
      · exact h
      · rw [hr.out i h] at hi; cases hi
    show (if i < s.n then β i else _) = some x
    rw [if_pos this]; exact hi
  have hg1 : ∀ a c x, rnI nC ids a = some c → βt a = some x → β1 c = some x := by
    intro a c x hac hax
    rcases rnI_spec hac with ⟨rfl, hlt⟩ | ⟨h1, h2, h3⟩
    · show (if a < nC then β a else _) = some x
      rw [if_pos hlt, ← βt_lo a hlt]; exact hax
    · show (if c < nC then β c else (ids[c - nC]?).bind βt) = some x
      rw [if_neg (by omega), h3]; exact hax
  have hg2 : ∀ c x, β1 c = some x → γ (if c < nC then c else c + (s.n - nC)) = some x := by
    intro c x hc
    by_cases h : c < nC
    · have hc : (if c < nC then β c else (ids[c - nC]?).bind βt) = some x := hc
      rw [if_pos h] at hc ⊢
      exact mono c x hc
    · have hc : (if c < nC then β c else (ids[c - nC]?).bind βt) = some x := hc
      rw [if_neg h] at hc ⊢
      have hlt : c - nC < ids.length := by
        rcases Nat.lt_or_ge (c - nC) ids.length with h | h
        · exact h
        · rw [List.getElem?_eq_none h] at hc; cases hc
      show (if c + (s.n - nC) < s.n then _ else if c + (s.n - nC) < s.n + bs.length then (ids[c + (s.n - nC) - s.n]?).bind βt else none) = some x
      rw [if_neg (by omega), if_pos (by omega), show c + (s.n - nC) - s.n = c - nC by omega]; exact hc
  have hval : VRel γ (shV nC (s.n - nC) v1) v' := shV_rel hg2 (mpV_rel hg1 hv hv0)
  -- the blocks of the new state
  have old : ∀ j, j < s.n → (pushAll nC (s.n - nC) bs s).blk j = s.blk j := fun j hj => by rw [pushAll_blk, if_neg (by omega)]
  have new : ∀ j b, s.n ≤ j → (pushAll nC (s.n - nC) bs s).blk j = some b → ∃ i bi b0, ids[j - s.n]? = some i ∧ nC ≤ i ∧ t'.blk i = some bi ∧ mpB (rnI nC ids) bi = some b0 ∧ b = shB nC (s.n - nC) b0 ∧ j < s.n + bs.length ∧ γ j = βt i := by
    intro j b hj hb
    rw [pushAll_blk] at hb
    split at hb
    · rename_i h
      obtain ⟨b0, q1, rfl⟩ := Option.map_eq_some_iff.1 hb
      obtain ⟨i, bi, r1, r2, r3, r4⟩ := hbs _ _ q1
      refine ⟨i, bi, b0, r1, r2, r3, r4, rfl, h.2, ?_⟩
      show (if j < s.n then _ else if j < s.n + bs.length then (ids[j - s.n]?).bind βt else none) = βt i
      rw [if_neg (by omega), if_pos h.2, r1]; rfl
    · rw [hr.outB j hj] at hb; cases hb
  have shlive : ∀ b : Blk, (shB nC (s.n - nC) b).live = b.live := fun b => by cases b <;> rfl
  have shown : ∀ b : Blk, (shB nC (s.n - nC) b).own = b.own := fun b => by
    cases b with
    | cells c e l a f =>
      simp only [shB, Blk.own]
      congr 2
      cases c <;> rfl
    | _ => rfl
  have shanc : ∀ b : Blk, b.anc = none → (shB nC (s.n - nC) b).anc = none := fun b h => by
    cases b with
    | cells c e l a f => simp only [Blk.anc] at h; subst h; rfl
    | _ => rfl
  have lo : ∀ b : Blk, b.live = true → b.own = true := by
    intro b h
    cases b with
    | cells c e l a f => simp only [Blk.live] at h; simp [Blk.own, h]
    | map => rfl
    | hole => cases h
  have newB : ∀ j b, s.n ≤ j → (pushAll nC (s.n - nC) bs s).blk j = some b → ∃ i bi, ids[j - s.n]? = some i ∧ t'.blk i = some bi ∧ γ j = βt i ∧ BRel P γ w' j b ∧ b.anc = none ∧ (b.live = true → bi.live = true) ∧
      (b.own = true → bi.own = true) ∧ (∀ a, bi.anc = some a → bi.live = true → rnI nC ids a = none) ∧ nC ≤ i := by
    intro j b hj hb
    obtain ⟨i, bi, b0, r1, r2, r3, r4, rfl, r5, r6⟩ := new j b hj hb
    obtain ⟨q1, q2, q3, q4, q5, q6⟩ := blk_rel (j := j) (hx.rel.blk i bi r3) r4 hg1 hg2 (fun x hxx => by rw [r6]; exact hxx)
    exact ⟨i, bi, r1, r3, r6, q1, shanc _ q2, fun h => q3 (by rw [shlive] at h; exact h), fun h => q4 (by rw [shown] at h; exact h), q5, r2⟩
  have γlo : ∀ j, j < s.n → γ j = β j := fun j hj => if_pos hj
  -- where a new block of its own lies
  have newO : ∀ j b x, s.n ≤ j → (pushAll nC (s.n - nC) bs s).blk j = some b → b.own = true → γ j = some x → w.heap.size ≤ x.b ∨ ∃ j0 b0 y, j0 < nC ∧ s.blk j0 = some b0 ∧ b0.own = true ∧ β j0 = some y ∧ y.b = x.b := by
    intro j b x hj hb ho hxx
    obtain ⟨i, bi, r1, r2, r3, _, _, _, r7, _⟩ := newB j b hj hb
    rw [r3] at hxx
    rcases hx.rangeO i bi x r2 (r7 ho) hxx with h | ⟨j0, b0, y, h1, h2, h3, h4⟩
    · exact .inl h
    · have hj0 : j0 < nC := by
        rcases Nat.lt_or_ge j0 nC with h | h
        · exact h
        · rw [hT.hi j0 h] at h1; cases h1
      rw [if_pos hj0] at h3
      exact .inr ⟨j0, b0, y, hj0, by rw [hr.con j0 hj0, ← hT.lo j0 hj0]; exact h1, h2, h3, h4⟩
  have newL : ∀ j b x, s.n ≤ j → (pushAll nC (s.n - nC) bs s).blk j = some b → b.live = true → γ j = some x → w.heap.size ≤ x.b := by
    intro j b x hj hb ho hxx
    obtain ⟨i, bi, r1, r2, r3, _, _, r6, _⟩ := newB j b hj hb
    rw [r3] at hxx
    rcases hx.rangeL i bi x r2 (r6 ho) hxx with h | ⟨j0, b0, y, h1, h2, _⟩
    · exact h
    · rw [tlive j0 b0 h1] at h2; cases h2
  refine ⟨γ, ?_, hval⟩
  exact
    { mono
      rel :=
        { blk := fun j b hb => by
            rcases Nat.lt_or_ge j s.n with hj | hj
            · rw [old j hj] at hb
              exact ((hr.blk j b hb).mono mono).same_mem keep
            · obtain ⟨_, _, _, _, _, q, _⟩ := newB j b hj hb; exact q
          out := fun j hj => by
            rw [pushAll_n] at hj
            show (if j < s.n then _ else if j < s.n + bs.length then _ else none) = none
            rw [if_neg (by omega), if_neg (by omega)]
          outB := fun j hj => by
            rw [pushAll_n] at hj
            rw [pushAll_blk, if_neg (by omega)]; exact hr.outB j (by omega)
          sep := fun i j bi bj x y hi hl hj ho hij hxi hyj hxy => by
            rcases Nat.lt_or_ge i s.n with h1 | h1
            · rw [old i h1] at hi
              rw [γlo i h1] at hxi
              rcases Nat.lt_or_ge j s.n with h2 | h2
              · rw [old j h2] at hj
                rw [γlo j h2] at hyj
                exact hr.sep i j bi bj x y hi hl hj ho hij hxi hyj hxy
              · rcases newO j bj y h2 hj ho hyj with h3 | ⟨j0, b0, z, h3, h4, h5, h6, h7⟩
                · have := hr.bnd i x hxi; omega
                · have hne : i ≠ j0 := by
                    rintro rfl
                    rw [hr.conL i bi h3 hi] at hl; cases hl
                  have := hr.sep i j0 bi b0 x z hi hl h4 h5 hne hxi h6 (hxy.trans h7.symm)
                  have := (hr.anc i bi j0 hi hl this).1
                  omega
            · have h3 := newL i bi x h1 hi hl hxi
              rcases Nat.lt_or_ge j s.n with h2 | h2
              · rw [γlo j h2] at hyj
                have := hr.bnd j y hyj; omega
              · obtain ⟨i', bi', r1, r2, r3, _, _, r6, _, r8, _⟩ := newB i bi h1 hi
                obtain ⟨j', bj', q1, q2, q3, _, _, _, q7, _, q9⟩ := newB j bj h2 hj
                rw [r3] at hxi
                rw [q3] at hyj
                have hne : i' ≠ j' := by
                  rintro rfl
                  have := nodupN_spec hnd _ _ _ r1 q1
                  omega
                have ha := hx.rel.sep i' j' bi' bj' x y r2 (r6 hl) q2 (q7 ho) hne hxi hyj hxy
                have hn := r8 j' ha (r6 hl)
                unfold rnI at hn
                rw [show Nat.blt j' nC = false from by
                  cases hq : Nat.blt j' nC with
                  | false => rfl
                  | true => have := Nat.le_of_ble_eq_true hq; omega] at hn
                simp only at hn
                split at hn
                · cases hn
                · rename_i hpn
                  exact absurd (List.mem_of_getElem? q1) (posOf_none hpn)
          anc := fun i bi k hi hl ha => by
            rcases Nat.lt_or_ge i s.n with h1 | h1
            · rw [old i h1] at hi
              obtain ⟨r1, r2, c, e, f, r3⟩ := hr.anc i bi k hi hl ha
              exact ⟨r1, r2, c, e, f, by rw [old k (hr.id_lt r3)]; exact r3⟩
            · obtain ⟨_, _, _, _, _, _, q, _⟩ := newB i bi h1 hi
              rw [q] at ha; cases ha
          con := fun i hi => by rw [old i (by omega)]; exact hr.con i hi
          conL := fun i b hi hb => by rw [old i (by omega)] at hb; exact hr.conL i b hi hb
          le := by rw [pushAll_n]; omega
          glob := fun g hg => let ⟨r1, x, r2, r3⟩ := hr.glob g hg; ⟨r1, x, mono _ _ r2, r3⟩
          bnd := fun j x hj => by
            rcases Nat.lt_or_ge j s.n with h1 | h1
            · rw [γlo j h1] at hj
              have := hr.bnd j x hj; have := hx.size; omega
            · have hj : (if j < s.n then β j else if j < s.n + bs.length then (ids[j - s.n]?).bind βt else none) = some x := hj
              rw [if_neg (by omega)] at hj
              split at hj
              · obtain ⟨i, q1, q2⟩ := Option.bind_eq_some_iff.1 hj
                exact hx.rel.bnd i x q2
              · cases hj }
      size := hx.size
      keep := fun b hb _ => keep b hb
      rangeL := fun j b x hb hl hxx => by
        rcases Nat.lt_or_ge j s.n with h1 | h1
        · rw [old j h1] at hb; rw [γlo j h1] at hxx
          exact .inr ⟨j, b, x, hb, hl, hxx, rfl⟩
        · exact .inl (newL j b x h1 hb hl hxx)
      rangeO := fun j b x hb hl hxx => by
        rcases Nat.lt_or_ge j s.n with h1 | h1
        · rw [old j h1] at hb; rw [γlo j h1] at hxx
          exact .inr ⟨j, b, x, hb, hl, hxx, rfl⟩
        · exact (newO j b x h1 hb hl hxx).imp id fun ⟨j0, b0, y, _, q2, q3, q4, q5⟩ => ⟨j0, b0, y, q2, q3, q4, q5⟩
      os := hx.os, output := hx.output, tape := hx.tape
      grow := by rw [pushAll_n]; omega
      holes := fun i hi => by rw [old i (hr.id_lt hi)]; exact hi
      unhole := fun i hi hh => by rw [old i hi] at hh; exact hh
      new := fun i hi => γlo i hi }

end

/- a summary is sound -/
theorem sumUp_ok {E : Env} {C : Nat → Option Blk} (G : Good E C) {n : Nat} {f : FuncId} {args : List Value} {t : St} {ids : List Nat} {v : Value} {bs : List Blk} (hT : Tpl E.nC C t)
    (h : sumUp E n f args t ids = some (v, bs)) (hbody : ∃ fn, E.P.funcs[f]? = some fn ∧ fn.body.isSome = true) {s : St} {β : Bm} {w : World} {cargs : List Value} (hr : Rel E.P E.nC C β s w) (hl : LR β args cargs) :
    (∃ fn : Func, E.P.funcs[f]? = some fn ∧ fn.body.isSome = true) ∧ Calls E.P f ⟨cargs⟩ w fun e w' => ∃ β', Ext E.P E.nC C β s w β' (pushAll E.nC (s.n - E.nC) bs s) w' ∧ EnR β' (.ret (shV E.nC (s.n - E.nC) v)) e := by
  refine ⟨hbody, ?_⟩
  unfold sumUp at h
  split at h
  · rename_i hsc hnd
    split at h
    · rename_i v0 t' hc
      split at h
      · rename_i v1 bs1 hv hb
        cases h
        have hl2 : LR (fun i => if i < E.nC then β i else none) args cargs := by
          have := hl.scalar_eq hsc
          rw [this]; exact scalars_refl args hsc
        have hrt := tpl_rel hT hr
        rcases (sound G n).calls f args t (.ret v0) t' hc _ w cargs hrt hl2 with ⟨fn, _, _, q3⟩ | ⟨v2, v2', q1, q2, q3, q4⟩
        · refine q3.mono fun e w' ⟨β', x1, x2⟩ => ?_
          cases e with
          | returned v' => exact sum_ext hT hr x1 x2 hnd hb hv
          | panicked ch => exact x2.elim
          | outgrown => exact x2.elim
        · exfalso
          obtain ⟨fn, h1, h2⟩ := hbody
          rw [callFunc_enter G h1 h2] at q4
          cases q4
      · cases h
    · cases h
  · cases h

end Go.Dv
end
section
/- The one body-less function that is reached: the place of a byte in a string. -/
namespace Go.Dv

def posB (c : Nat) : Nat → List UInt8 → Int
  | _, [] => -1
  | i, b :: bs => match Nat.beq b.toNat c with | true => .ofNat i | false => posB c (Nat.succ i) bs

def xtIdx : List Value → Option Value
  | [.string b, .int .u8 (.ofNat c)] => match Nat.blt c 256 with | true => vInt .i64 (posB c 0 b.data.toList) | false => none
  | _ => none

theorem posB_find (l : List UInt8) (c : Nat) (hc : c < 256) (f : Nat → Bool) (hf : ∀ i (h : i < l.length), f i = (l[i] == c.toUInt8)) : ∀ n i, i + n = l.length →
    posB c i (l.drop i) = (match (List.range' i n).find? f with | some j => (j : Int) | none => -1) := by
  intro n
  induction n with
  | zero =>
    intro i hi
    rw [List.drop_eq_nil_of_le (by omega)]
    rfl
  | succ n ih =>
    intro i hi
    have hlt : i < l.length := by omega
    rw [List.drop_eq_getElem_cons hlt, List.range'_succ]
    simp only [posB, List.find?_cons]
    rw [hf i hlt]
    have key : Nat.beq (l[i]).toNat c = (l[i] == c.toUInt8) := by
      rw [Bool.eq_iff_iff]
      simp only [beq_iff_eq]
      constructor
      · intro h
        have h := Nat.eq_of_beq_eq_true h
        apply UInt8.toNat_inj.1
        rw [h]
        simp [Nat.mod_eq_of_lt hc]
      · intro h
        rw [h]
        simp [Nat.mod_eq_of_lt hc]
    rw [key]
    cases hq : (l[i] == c.toUInt8) with
    | true => rfl
    | false => exact ih (i + 1) (by omega)

theorem xtIdx_ok {P : Program} {β : Bm} {f : FuncId} {fn : Func} {args cargs : List Value} {v : Value} (hfn : P.funcs[f]? = some fn) (hb : fn.body = none) (hname : fn.name ≠ "runtime.NumGoroutine")
    (hnext : Extern.findNext fn = none) (hfind : Extern.find fn = some Extern.BytealgIndexByte.indexByte) (h : xtIdx args = some v) (hl : LR β args cargs) (w : World) :
    ∃ v', VRel β v v' ∧ (callFunc f ⟨cargs⟩).run P w = .ok (.value v') w := by
  unfold xtIdx at h
  split at h
  · rename_i b c
    split at h
    · rename_i hc
      have hc := Nat.le_of_ble_eq_true hc
      rw [vInt_eq] at h
      cases h
      obtain ⟨x, l, rfl, hx, hl⟩ := hl.cons_inv
      obtain ⟨y, l, rfl, hy, hl⟩ := hl.cons_inv
      have := hl.nil_inv
      subst this
      rw [hx.string_inv, hy.int_inv]
      refine ⟨_, .int _ _, ?_⟩
      have hlen : b.data.toList.length = b.size := by rw [Array.length_toList]; rfl
      have hp := posB_find b.data.toList c hc (fun i => b[i]! == c.toUInt8) (fun i hi => by
        have hi' : i < b.size := by omega
        simp [getElem!_pos, hi', ByteArray.getElem_eq_getElem_data]) b.size 0 (by omega)
      rw [List.drop_zero] at hp
      rw [hp]
      have hnn : fn.body.isNone = true := by rw [hb]; rfl
      simp only [callFunc, Sem.run_bind, run_program, Result.andThen_ok, hfn, hnext, hfind, hnn, if_true]
      rw [if_neg (by simpa using hname)]
      simp only [Sem.run_bind, run_mark, Result.andThen_ok]
      rw [show Extern.BytealgIndexByte.indexByte #[.string b, .int .u8 (Int.ofNat c)] = (Extern.Bytes.bytesOf (.string b) >>= _) from rfl]
      simp only [Extern.Bytes.bytesOf, pure_bind]
      rw [show Extern.Bytes.asByte (#[Value.string b, Value.int .u8 (Int.ofNat c)].getLit 1 rfl (Nat.lt_succ_self 1)) = pure c.toUInt8 from rfl]
      simp only [pure_bind, List.range_eq_range']
      cases List.find? (fun i => b[i]! == c.toUInt8) (List.range' 0 b.size) <;> rfl
    · cases h
  · cases h

end Go.Dv
end
section
/- Constants: from what a row says is laid, to the relation. -/
namespace Go.Dv

def blkK (ts : Nat → Nat) (i : Nat) : Option (List Value) → Blk
  | none => .hole
  | some c => .cells c (ts i) false none 0

def layT (ts : Nat → Nat) : Nat → List (Option (List Value)) → St → St
  | _, [], s => s
  | i, k :: ks, s => layT ts (Nat.succ i) ks (s.push (blkK ts i k))

theorem layT_n (ts : Nat → Nat) : ∀ (ks : List (Option (List Value))) (i : Nat) (s : St), (layT ts i ks s).n = s.n + ks.length := by
  intro ks
  induction ks with
  | nil => intro i s; rfl
  | cons k ks ih => intro i s; simp only [layT]; rw [ih]; simp; omega

theorem layT_blk (ts : Nat → Nat) : ∀ (ks : List (Option (List Value))) (i : Nat) (s : St) (j : Nat), (layT ts i ks s).blk j = if s.n ≤ j ∧ j < s.n + ks.length then (ks[j - s.n]?).map (blkK ts (i + (j - s.n))) else s.blk j := by
  intro ks
  induction ks with
  | nil => intro i s j; simp only [layT]; rw [if_neg (by simp only [List.length_nil]; omega)]
  | cons k ks ih =>
    intro i s j
    simp only [layT]
    rw [ih, St.blk_push, St.n_push]
    by_cases h1 : s.n = j
    · subst h1
      rw [if_neg (by omega), if_pos rfl, if_pos (by simp)]
      simp
    · rw [if_neg h1]
      by_cases h2 : s.n + 1 ≤ j ∧ j < s.n + 1 + ks.length
      · rw [if_pos h2, if_pos (by simp only [List.length_cons]; omega)]
        rw [show j - s.n = (j - (s.n + 1)) + 1 by omega, show Nat.succ i + (j - (s.n + 1)) = i + (j - (s.n + 1) + 1) by omega]
        simp
      · rw [if_neg h2, if_neg (by simp only [List.length_cons]; omega)]

def st0 : St := ⟨.leaf, 0⟩
def tplK (ts : Nat → Nat) (K : List (Option (List Value))) : St := layT ts 0 K st0

theorem tplK_blk (ts : Nat → Nat) (K : List (Option (List Value))) (j : Nat) : (tplK ts K).blk j = (K[j]?).map (blkK ts j) := by
  unfold tplK
  rw [layT_blk]
  by_cases h : j < K.length
  · rw [if_pos (by simp [st0]; exact h)]; simp [st0]
  · rw [if_neg (by simp [st0]; omega), List.getElem?_eq_none (by omega)]; rfl

theorem tplK_n (ts : Nat → Nat) (K : List (Option (List Value))) : (tplK ts K).n = K.length := by
  unfold tplK; rw [layT_n]; simp [st0]

def cloK (n : Nat) : List (Option (List Value)) → Bool
  | [] => true
  | none :: ks => cloK n ks
  | some c :: ks => match mpL (rnI n []) c with
    | some c0 => match veqs c0 c with | true => cloK n ks | false => false
    | none => false

theorem cloK_spec {n : Nat} : ∀ {ks : List (Option (List Value))}, cloK n ks = true → ∀ (i : Nat) (c : List Value), ks[i]? = some (some c) → mpL (rnI n []) c = some c := by
  intro ks
  induction ks with
  | nil => intro _ i c h; simp at h
  | cons k ks ih =>
    intro h i c hi
    cases k with
    | none =>
      simp only [cloK] at h
      cases i with
      | zero => simp at hi
      | succ i => exact ih h i c (by simpa using hi)
    | some d =>
      simp only [cloK] at h
      split at h
      · rename_i c0 hc0
        split at h
        · rename_i hv
          cases i with
          | zero => simp at hi; subst hi; rw [hc0, veqs_eq _ _ hv]
          | succ i => exact ih h i c (by simpa using hi)
        · cases h
      · cases h

theorem tplK_tpl {ts : Nat → Nat} {K : List (Option (List Value))} (h : cloK K.length K = true) : Tpl K.length (fun i => (tplK ts K).blk i) (tplK ts K) :=
  { n := tplK_n ts K
    lo := fun _ _ => rfl
    hi := fun i hi => by rw [tplK_blk, List.getElem?_eq_none hi]; rfl
    clo := fun i c e l a f hc => by
      rw [tplK_blk] at hc
      obtain ⟨k, h1, h2⟩ := Option.map_eq_some_iff.1 hc
      cases k with
      | none => cases h2
      | some d =>
        cases h2
        exact ⟨_, cloK_spec h i _ h1, rfl⟩
    cells := fun i b hb => by
      rw [tplK_blk] at hb
      obtain ⟨k, h1, h2⟩ := Option.map_eq_some_iff.1 hb
      cases k with
      | none => cases h2; exact .inr rfl
      | some d => cases h2; exact .inl ⟨_, _, _, rfl⟩ }

/- what a block of constants is in the world -/
def KRel (β : Bm) (w : World) (x : BI) (c : List Value) (t : Nat) : Prop :=
  ∃ (cc : Array Value) (f : Nat × Nat), w.heap[x.b]? = some (.cells cc t f) ∧ x.n = cc.size ∧ x.d + c.length ≤ cc.size ∧ ∀ (j : Nat) (v : Value), c[j]? = some v → ∃ v', cc[x.d + j]? = some v' ∧ VRel β v v'

theorem tplK_rel {P : Program} {ts : Nat → Nat} {K : List (Option (List Value))} {w : World} {β : Bm} (hβ : ∀ i, K.length ≤ i → β i = none)
    (hb : ∀ (i : Nat) (c : List Value), K[i]? = some (some c) → ∃ x, β i = some x ∧ KRel β w x c (ts i)) (hg : ∀ g, g < P.globals.size → g < K.length ∧ ∃ x, β g = some x ∧ x.b = g ∧ x.d = 0)
    (hbd : ∀ i x, β i = some x → x.b < w.heap.size) : Rel P K.length (fun i => (tplK ts K).blk i) β (tplK ts K) w := by
  have dead : ∀ i b, (tplK ts K).blk i = some b → b.live = false := by
    intro i b h
    rw [tplK_blk] at h
    obtain ⟨k, h1, rfl⟩ := Option.map_eq_some_iff.1 h
    cases k <;> rfl
  exact
    { blk := fun i b h => by
        rw [tplK_blk] at h
        obtain ⟨k, h1, rfl⟩ := Option.map_eq_some_iff.1 h
        cases k with
        | none => trivial
        | some c =>
          obtain ⟨x, h2, cc, ⟨lo, hi⟩, h3, h4, h5, h6⟩ := hb i c h1
          exact ⟨x, cc, lo, hi, h2, h3, h4, h5, h6, fun hh => by cases hh⟩
      out := fun i hi => hβ i (by rw [tplK_n] at hi; exact hi)
      outB := fun i hi => by rw [tplK_n] at hi; rw [tplK_blk, List.getElem?_eq_none hi]; rfl
      sep := fun i j bi bj x y hi hl => by rw [dead i bi hi] at hl; cases hl
      anc := fun i bi k hi hl => by rw [dead i bi hi] at hl; cases hl
      con := fun _ _ => rfl
      conL := fun i b _ h => dead i b h
      le := by rw [tplK_n]; exact Nat.le_refl _
      glob := hg, bnd := hbd }

/- data without pointers, cell by cell -/
def flatS (fl : TypeId → DataW Unit → Option (List Value)) (P : Program) : List Field → List (DataW Unit) → Nat → Option (List Value)
  | [], [], _ => some []
  | f :: fs, d :: ds, off => match Nat.beq f.offset off, fl f.type d with
    | true, some c => match Nat.beq c.length (P.cellsOf f.type), flatS fl P fs ds (off + c.length) with
      | true, some cs => some (c ++ cs)
      | _, _ => none
    | _, _ => none
  | _, _, _ => none

def flatA (fl : DataW Unit → Option (List Value)) (sz : Nat) : List (DataW Unit) → Option (List Value)
  | [] => some []
  | d :: ds => match fl d with
    | some c => match Nat.beq c.length sz, flatA fl sz ds with
      | true, some cs => some (c ++ cs)
      | _, _ => none
    | none => none

def flat (P : Program) : Nat → TypeId → DataW Unit → Option (List Value)
  | 0, _, _ => none
  | n + 1, t, d => match P.underlying t, d with
    | some .bool, .lit (.bool b) => some [.bool b]
    | some (.int k), .lit (.int k' z) => if k = k' then some [.int k z] else none
    | some .string, .lit (.string bs) => some [.string ⟨⟨bs⟩⟩]
    | some (.struct fs), .agg ds => match flatS (flat P n) P fs.toList ds 0 with
      | some c => if c.length = P.cellsOf t then some c else none
      | none => none
    | some (.array _m e), .agg ds => match flatA (flat P n e) (P.cellsOf e) ds with
      | some c => if c.length = P.cellsOf t then some c else none
      | none => none
    | _, _ => none

section
variable {P : Program} {w : World} {base : Nat} {sp : Nat → Bool} {held : Bool} {fuel : Nat} {enc : TypeId × Value → Unit}

theorem flatS_trod {fl : TypeId → DataW Unit → Option (List Value)} {cs : List Value} (hfl : ∀ t d c cs' p, DataW.trod enc P w base sp held fuel t cs' = some (d, p) → fl t d = some c → cs' = c) :
    ∀ (fs : List Field) (xs : List (DataW Unit × List MemPlace)) (off : Nat) (c : List Value), fs.mapM (fun f => DataW.trod enc P w base sp held fuel f.type ((cs.drop f.offset).take (P.cellsOf f.type))) = some xs →
      flatS fl P fs (xs.map (·.1)) off = some c → (cs.drop off).take c.length = c := by
  intro fs
  induction fs with
  | nil =>
    intro xs off c hm h
    simp at hm
    subst hm
    simp only [List.map_nil, flatS, Option.some.injEq] at h
    subst h; simp
  | cons f fs ih =>
    intro xs off c hm h
    simp only [List.mapM_cons, Option.bind_eq_bind, Option.bind_eq_some_iff, Option.pure_def, Option.some.injEq] at hm
    obtain ⟨x, hx, xs', hxs, rfl⟩ := hm
    simp only [List.map_cons, flatS] at h
    split at h
    · rename_i c1 ho hc1
      split at h
      · rename_i c2 hl hc2
        cases h
        have ho := Nat.eq_of_beq_eq_true ho
        have hl := Nat.eq_of_beq_eq_true hl
        have e1 := hfl f.type x.1 c1 _ x.2 hx hc1
        have e2 := ih xs' _ c2 hxs hc2
        rw [ho, ← hl] at e1
        have := List.take_add (l := cs.drop off) (i := c1.length) (j := c2.length)
        rw [List.length_append, this, e1, List.drop_drop, e2]
      · cases h
    · cases h

theorem flatA_trod {fl : DataW Unit → Option (List Value)} {e : TypeId} {cs : List Value} (hfl : ∀ d c cs' p, DataW.trod enc P w base sp held fuel e cs' = some (d, p) → fl d = some c → cs' = c) :
    ∀ (n k : Nat) (xs : List (DataW Unit × List MemPlace)) (c : List Value), (List.range' k n).mapM (fun i => DataW.trod enc P w base sp held fuel e ((cs.drop (i * P.cellsOf e)).take (P.cellsOf e))) = some xs →
      flatA fl (P.cellsOf e) (xs.map (·.1)) = some c → (cs.drop (k * P.cellsOf e)).take c.length = c := by
  intro n
  induction n with
  | zero =>
    intro k xs c hm h
    simp at hm
    subst hm
    simp only [List.map_nil, flatA, Option.some.injEq] at h
    subst h; simp
  | succ n ih =>
    intro k xs c hm h
    simp only [List.range'_succ, List.mapM_cons, Option.bind_eq_bind, Option.bind_eq_some_iff, Option.pure_def, Option.some.injEq] at hm
    obtain ⟨x, hx, xs', hxs, rfl⟩ := hm
    simp only [List.map_cons, flatA] at h
    split at h
    · rename_i c1 hc1
      split at h
      · rename_i c2 hl hc2
        cases h
        have hl := Nat.eq_of_beq_eq_true hl
        have e1 := hfl x.1 c1 _ x.2 hx hc1
        have e2 := ih (k + 1) xs' c2 hxs hc2
        rw [← hl] at e1
        have := List.take_add (l := cs.drop (k * P.cellsOf e)) (i := c1.length) (j := c2.length)
        rw [hl] at this e1
        rw [List.length_append, hl, this, e1, List.drop_drop, ← Nat.succ_mul, e2]
      · cases h
    · cases h

theorem flat_trod : ∀ (fuel n : Nat) (t : TypeId) (d : DataW Unit) (c cs : List Value) (p : List MemPlace), DataW.trod enc P w base sp held fuel t cs = some (d, p) → flat P n t d = some c → cs = c := by
  intro fuel
  induction fuel with
  | zero => intro n t d c cs p h; simp [DataW.trod] at h
  | succ fuel ih =>
    intro n t d c cs p h hf
    cases n with
    | zero => simp [flat] at hf
    | succ n =>
      unfold flat at hf
      split at hf
      · rename_i b ht
        cases hf
        unfold DataW.trod at h
        rw [ht] at h
        split at h <;> simp_all
      · rename_i k k' z ht
        split at hf
        · rename_i hk
          cases hf
          subst hk
          unfold DataW.trod at h
          rw [ht] at h
          split at h <;> simp_all
        · cases hf
      · rename_i bs ht
        cases hf
        unfold DataW.trod at h
        rw [ht] at h
        split at h <;> simp_all
        obtain ⟨_, rfl, _⟩ := h
        rfl
      · rename_i fs ds ht
        split at hf
        · rename_i c1 hc1
          split at hf
          · rename_i hl
            cases hf
            simp only [DataW.trod, ht] at h
            split at h
            · rename_i hlen
              obtain ⟨xs, hm, hx⟩ := Option.map_eq_some_iff.1 h
              simp only [Prod.mk.injEq, DataW.agg.injEq] at hx
              obtain ⟨rfl, _⟩ := hx
              have := flatS_trod (fl := flat P n) (cs := cs) (fun t d c cs' p h1 h2 => ih n t d c cs' p h1 h2) fs.toList xs 0 c hm hc1
              rw [List.drop_zero, hl, ← hlen, List.take_length] at this
              exact this
            · cases h
          · cases hf
        · cases hf
      · rename_i m e ds ht
        split at hf
        · rename_i c1 hc1
          split at hf
          · rename_i hl
            cases hf
            simp only [DataW.trod, ht] at h
            split at h
            · rename_i hlen
              obtain ⟨xs, hm, hx⟩ := Option.map_eq_some_iff.1 h
              simp only [Prod.mk.injEq, DataW.agg.injEq] at hx
              obtain ⟨rfl, _⟩ := hx
              rw [List.range_eq_range'] at hm
              have := flatA_trod (fl := flat P n e) (cs := cs) (fun d c cs' p h1 h2 => ih n e d c cs' p h1 h2) m 0 xs c hm hc1
              rw [Nat.zero_mul, List.drop_zero, hl, ← hlen, List.take_length] at this
              exact this
            · cases h
          · cases hf
        · cases hf
      · cases hf

end
end Go.Dv
end
section
/- Constants: rows behind slices. -/
namespace Go.Dv
section
variable {P : Program} {w : World} {held : Bool} {fuel : Nat} {enc : TypeId × Value → Unit}

theorem add_lit (b o n : Nat) (sp : Option Nat) (h : n ≠ 0 ∨ sp = none) : (Addr.mk b o sp).add n = ⟨b, o + n, none⟩ := by
  unfold Addr.add
  split
  · rename_i h0
    rcases h with h | h
    · exact absurd h0 h
    · subst h0; subst h; rfl
  · rfl

theorem cells_at {base : Nat} {a : Addr} {n : Nat} {cs : List Value} (h : w.cells? base a n = some cs) : cs.length = n ∧ ∀ i, i < n → w.cell? (a.add i) = cs[i]? := by
  unfold World.cells? at h
  split at h
  · have hl := Lib.mapM_length h
    refine ⟨by simpa using hl, fun i hi => ?_⟩
    obtain ⟨b, h1, h2⟩ := Lib.mapM_at h i i (by simp [hi])
    rw [h1, h2]
  · cases h

/- the cells of a row of elements -/
theorem flatA_row {_e : TypeId} {fl : DataW Unit → Option (List Value)} {sz : Nat} {read : Nat → Option (List Value)} :
    ∀ (ds : List (DataW Unit)) (k : Nat) (c : List Value), flatA fl sz ds = some c → (∀ i d c', ds[i]? = some d → fl d = some c' → read (k + i) = some c') →
      c.length = ds.length * sz ∧ ∀ i, i < ds.length → read (k + i) = some ((c.drop (i * sz)).take sz) := by
  intro ds
  induction ds with
  | nil => intro k c h _; simp only [flatA, Option.some.injEq] at h; subst h; exact ⟨by simp, fun i hi => by simp at hi⟩
  | cons d ds ih =>
    intro k c h hr
    simp only [flatA] at h
    split at h
    · rename_i c1 hc1
      split at h
      · rename_i c2 hl hc2
        cases h
        have hl := Nat.eq_of_beq_eq_true hl
        obtain ⟨i1, i2⟩ := ih (k + 1) c2 hc2 (fun i d' c' hd hc => by rw [Nat.add_assoc, Nat.add_comm 1 i]; exact hr (i + 1) d' c' (by simpa using hd) hc)
        refine ⟨by simp [i1, hl, Nat.succ_mul]; omega, fun i hi => ?_⟩
        cases i with
        | zero =>
          have := hr 0 d c1 rfl hc1
          rw [this]
          simp [← hl]
        | succ i =>
          have := i2 i (by simpa using hi)
          rw [show k + (i + 1) = k + 1 + i by omega, this]
          have e1 : (c1 ++ c2).drop ((i + 1) * sz) = c2.drop (i * sz) := by
            rw [Nat.succ_mul, List.drop_append, List.drop_eq_nil_of_le (by omega), List.nil_append, hl]
            congr 1
            omega
          rw [e1]
      · cases h
    · cases h

theorem cell_block {a : Addr} {v : Value} (h : w.cell? a = some v) : a.spot = none ∧ ∃ cc t f, w.heap[a.block]? = some (.cells cc t f) ∧ cc[a.off]? = some v := by
  unfold World.cell? at h
  split at h
  · rename_i cc t f hb
    split at h
    · cases h
    · rename_i hs
      refine ⟨?_, cc, t, f, hb, h⟩
      cases hq : a.spot with
      | none => rfl
      | some x => rw [hq] at hs; simp at hs
  · cases h

/- a slice of elements without pointers -/
theorem slice_krel {β : Bm} {t e : TypeId} {cs : List Value} {ds : List (DataW Unit)} {p : List MemPlace} {n : Nat} {c : List Value} (ht : P.underlying t = some (.slice e))
    (h : DataW.trod enc P w 0 (fun _ => true) held (fuel + 1) t cs = some (.slice ds [], p)) (hf : flatA (flat P n e) (P.cellsOf e) ds = some c) (hsz : 1 ≤ P.cellsOf e) (hne : 1 ≤ ds.length) (hsc : scalars c = true) :
    ∃ b o t' x, cs = [.slice (some ⟨b, o, none⟩) ds.length ds.length] ∧ x.b = b ∧ x.d = o ∧ KRel β w x c t' := by
  unfold DataW.trod at h
  rw [ht] at h
  split at h
  all_goals try (rename_i heq; cases heq; done)
  all_goals try (cases h; done)
  rename_i e' a len cap heq
  cases heq
  simp only at h
  split at h
  · rename_i hc
    obtain ⟨_, hlc, _⟩ := hc
    obtain ⟨elems, hel, h⟩ := Option.bind_eq_some_iff.1 h
    simp only [if_true] at h
    obtain ⟨rest, hrest, hx⟩ := Option.map_eq_some_iff.1 h
    simp only [Prod.mk.injEq, DataW.slice.injEq] at hx
    obtain ⟨⟨rfl, hr0⟩, _⟩ := hx
    have hr0 : rest = [] := by simpa using hr0
    subst hr0
    have hl1 : elems.length = len := by simpa using Lib.mapM_length hel
    have hl2 : cap - len = 0 := by simpa using (Lib.mapM_length hrest).symm
    have hcap : cap = len := by omega
    subst hcap
    obtain ⟨row1, row2⟩ := flatA_row (_e := e) (read := fun i => w.cells? 0 (a.add (i * P.cellsOf e)) (P.cellsOf e)) (elems.map (·.1)) 0 c hf (fun i d c' hd hc' => by
      have hi : i < cap := by
        rcases Nat.lt_or_ge i cap with h | h
        · exact h
        · rw [List.getElem?_eq_none (by simp; omega)] at hd; cases hd
      obtain ⟨b, q1, q2⟩ := Lib.mapM_at hel i i (by simp [hi])
      obtain ⟨cells, q3, q4⟩ := Option.bind_eq_some_iff.1 q2
      have hd' : d = b.1 := by
        rw [List.getElem?_map, q1] at hd
        simpa using hd.symm
      subst hd'
      have := flat_trod (enc := enc) fuel n e b.1 c' cells b.2 q4 hc'
      show w.cells? 0 (a.add ((0 + i) * P.cellsOf e)) (P.cellsOf e) = some c'
      rw [Nat.zero_add, q3, this])
    have hlen : (elems.map (·.1)).length = cap := by simp [hl1]
    rw [hlen] at row1 row2 hne
    -- the first cell
    have cellAt : ∀ i j, i < cap → j < P.cellsOf e → w.cell? ((a.add (i * P.cellsOf e)).add j) = c[i * P.cellsOf e + j]? := by
      intro i j hi hj
      have h1 := row2 i hi
      have h1 : w.cells? 0 (a.add ((0 + i) * P.cellsOf e)) (P.cellsOf e) = some ((c.drop (i * P.cellsOf e)).take (P.cellsOf e)) := h1
      rw [Nat.zero_add] at h1
      obtain ⟨_, h2⟩ := cells_at h1
      rw [h2 j hj, List.getElem?_take, if_pos hj, List.getElem?_drop]
    have hc0 : ∃ v, c[0]? = some v := by
      have : 0 < c.length := by rw [row1]; exact Nat.mul_pos (by omega) (by omega)
      exact ⟨c[0], List.getElem?_eq_getElem this⟩
    obtain ⟨v0, hv0⟩ := hc0
    have h00 := cellAt 0 0 (by omega) (by omega)
    rw [Nat.zero_mul, Nat.zero_add, hv0] at h00
    have a0 : (a.add 0).add 0 = a := by cases a; simp [Addr.add]
    rw [a0] at h00
    obtain ⟨hsp, cc, t', f, hb, hcc0⟩ := cell_block h00
    obtain ⟨bb, oo, sp⟩ := a
    simp only at hsp
    subst hsp
    have cellAll : ∀ j, j < c.length → cc[oo + j]? = c[j]? := by
      intro j hj
      have hm : j = (j / P.cellsOf e) * P.cellsOf e + j % P.cellsOf e := by rw [Nat.mul_comm]; exact (Nat.div_add_mod j _).symm
      have hi : j / P.cellsOf e < cap := by
        apply Nat.div_lt_of_lt_mul
        rw [Nat.mul_comm, ← row1]; exact hj
      have hjm : j % P.cellsOf e < P.cellsOf e := Nat.mod_lt _ (by omega)
      have := cellAt _ _ hi hjm
      rw [← hm, add_lit _ _ _ _ (.inr rfl), add_lit _ _ _ _ (.inr rfl)] at this
      unfold World.cell? at this
      simp only [hb] at this
      rw [← this]
      simp only [Option.isSome_none, Bool.false_eq_true, if_false]
      congr 1
      omega
    have hle : oo + c.length ≤ cc.size := by
      have hpos : 0 < c.length := by
        rcases Nat.lt_or_ge 0 c.length with h | h
        · exact h
        · rw [List.getElem?_eq_none h] at hv0; cases hv0
      have hlast := cellAll (c.length - 1) (by omega)
      rw [List.getElem?_eq_getElem (by omega)] at hlast
      rcases Nat.lt_or_ge (oo + (c.length - 1)) cc.size with h | h
      · omega
      · rw [Array.getElem?_eq_none h] at hlast; cases hlast
    refine ⟨bb, oo, t', ⟨bb, oo, cc.size⟩, by rw [hlen], rfl, rfl, cc, f, hb, rfl, hle, fun j v hv => ?_⟩
    have hj : j < c.length := by
      rcases Nat.lt_or_ge j c.length with h | h
      · exact h
      · rw [List.getElem?_eq_none h] at hv; cases hv
    exact ⟨v, by rw [cellAll j hj]; exact hv, scalar_refl v (scalars_iff.1 hsc j v hv)⟩
  · cases h

end
end Go.Dv
end
