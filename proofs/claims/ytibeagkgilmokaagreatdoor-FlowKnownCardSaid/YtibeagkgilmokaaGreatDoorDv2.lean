import Derived.Test.YtibeagkgilmokaaGreatDoorDv1
import GoSem.Builtin.Delete
import GoSem.Builtin.Clear
section
/- What each operation comes to: reads, new blocks, effects. -/
namespace Go.Dv
section
variable {P : Program} {nC : Nat} {C : Nat → Option Blk} {β : Bm} {s : St} {w : World} {tr : Tr} {ev : Operand → Value} {o : Oper} {v : Value}

theorem run_getObj_map {b : Nat} {ces : Array MapEntry} {clk : Nat} (h : w.heap[b]? = some (.map ces clk)) : (getObj b).run P w = .ok (.map ces clk) w := by
  simp [getObj, Sem.run, h]

theorem run_setObj_map {b : Nat} {ces : Array MapEntry} {clk : Nat} (ob : Obj) (h : w.heap[b]? = some (.map ces clk)) : (setObj b ob).run P w = .ok () (putB w b ob) := by
  simp [setObj, Sem.run, h, putB]

theorem sameBits_self {kk : Kk} {k : Value} (h : kk.has k = true) : Instr.sameBits 10000 k k = true := by
  cases kk <;> cases k <;> simp [Kk.has] at h <;> simp [Instr.sameBits, bytes_beq]

theorem kkMap_spec {t : TypeId} {kk : Kk} (h : kkMap P t = some kk) : ∃ key el d, P.underlying t = some (.map key el) ∧ P.underlying key = some d ∧ kkOf (some d) = some kk := by
  unfold kkMap at h
  split at h
  · rename_i key el ht
    cases hd : P.underlying key with
    | none => rw [hd] at h; simp [kkOf] at h
    | some d => rw [hd] at h; exact ⟨key, el, d, ht, hd, h⟩
  · cases h

theorem mset_run {t : TypeId} {kk : Kk} {es : List (Value × Value)} {ces : Array MapEntry} {clk b : Nat} {k v v' : Value} (ht : kkMap P t = some kk)
    (hb : w.heap[b]? = some (.map ces clk)) (hm : MRel β kk es ces.toList) (hk : kk.has k = true) (hv : VRel β v v') :
    ∃ ces' clk', MRel β kk (mapSet k v es) ces'.toList ∧ (Instr.mapUpdate t (.map (some b)) k v').run P w = .ok () (putB w b (.map ces' clk')) := by
  obtain ⟨key, el, d, h1, h2, h3⟩ := kkMap_spec ht
  obtain ⟨s1, s2, s3⟩ := mapSet_spec (v := v) hk hm.keys hm.dist
  have hkeys : ∀ p ∈ mapSet k v es, kk.has p.1 = true := fun p hp => by
    rcases (s1 p).1 hp with rfl | ⟨hp, _⟩
    · exact hk
    · exact hm.keys p hp
  have hf := hm.find hk
  rcases findKey_run (w := w) h2 h3 hk hm.ckeys with ⟨r1, r2⟩ | ⟨j, e, r1, r2, r3⟩
  · refine ⟨ces.push { key := k, val := v', born := clk }, clk + 1, ?_, ?_⟩
    · have hnone : mapFind k es = none := hf.1.2 r2
      refine { keys := hkeys, dist := s2, cdist := ?_, fwd := fun p hp => ?_, bwd := fun e he => ?_, len := ?_ }
      · simp only [Array.toList_push]
        refine List.pairwise_append.2 ⟨hm.cdist, by simp, fun a ha b hb => ?_⟩
        simp at hb; subst hb; exact r2 a ha
      · rcases (s1 p).1 hp with rfl | ⟨hp, hne⟩
        · exact ⟨_, by simp only [Array.toList_push, List.mem_append, List.mem_singleton]; exact .inr rfl, rfl, hv⟩
        · obtain ⟨e, he, hek, hr⟩ := hm.fwd p hp
          exact ⟨e, by simp only [Array.toList_push, List.mem_append]; exact .inl he, hek, hr⟩
      · simp only [Array.toList_push, List.mem_append, List.mem_singleton] at he
        rcases he with he | rfl
        · obtain ⟨p, hp, hpk, hr⟩ := hm.bwd e he
          exact ⟨p, (s1 p).2 (.inr ⟨hp, by rw [hpk]; exact r2 e he⟩), hpk, hr⟩
        · exact ⟨(k, v), (s1 _).2 (.inl rfl), rfl, hv⟩
      · rw [s3, hnone]; simp [hm.len]
    · simp [Instr.mapUpdate, run_ud h1, run_getObj_map hb, checkKey_run h2 h3 hk, r1, run_setObj_map _ hb]
  · refine ⟨ces.modify j fun e => { e with key := k, val := v' }, clk, ?_, ?_⟩
    · have hmem : e ∈ ces.toList := List.mem_of_getElem? r2
      have hsome : (mapFind k es).isSome = true := by
        cases hq : mapFind k es with
        | some => rfl
        | none => exact absurd r3 (hf.1.1 hq e hmem)
      -- the key is the one that stood there
      have hmod : (ces.modify j fun e => { e with key := k, val := v' }).toList = ces.toList.modify j fun e => { e with key := k, val := v' } := by simp
      have hmm := mem_modify (f := fun e => { e with key := k, val := v' }) r2 hm.cdist
      rw [r3] at hmm
      rw [hmod]
      refine { keys := hkeys, dist := s2, cdist := ?_, fwd := fun p hp => ?_, bwd := fun x hx => ?_, len := ?_ }
      · have : ces.toList.modify j (fun e => { e with key := k, val := v' }) = ces.toList.modify j (fun e' => { e' with val := v' }) := by
          apply List.ext_getElem?
          intro i
          simp only [List.getElem?_modify]
          by_cases hij : j = i
          · subst hij; simp only [if_true, r2, Option.map_some, Option.map_eq_map]; rw [← r3]
          · simp [hij]
        rw [this]
        exact cdist_modify (fun e => rfl) hm.cdist
      · rcases (s1 p).1 hp with rfl | ⟨hp, hne⟩
        · exact ⟨_, (hmm _).2 (.inl rfl), rfl, hv⟩
        · obtain ⟨e', he', hek, hr⟩ := hm.fwd p hp
          exact ⟨e', (hmm _).2 (.inr ⟨he', by rw [hek]; exact hne⟩), hek, hr⟩
      · rcases (hmm x).1 hx with rfl | ⟨hx, hne⟩
        · exact ⟨(k, v), (s1 _).2 (.inl rfl), rfl, hv⟩
        · obtain ⟨p, hp, hpk, hr⟩ := hm.bwd x hx
          exact ⟨p, (s1 p).2 (.inr ⟨hp, by rw [hpk]; exact hne⟩), hpk, hr⟩
      · rw [s3, if_pos hsome]; simp [hm.len]
    · have hget : ces[j]? = some e := by rw [← Array.getElem?_toList]; exact r2
      have hstay : (Instr.keyThatStays k k).run P w = .ok k w := by simp [Instr.keyThatStays, sameBits_self hk]
      simp [Instr.mapUpdate, run_ud h1, run_getObj_map hb, checkKey_run h2 h3 hk, r1, run_setObj_map _ hb, hget, r3, hstay]

theorem mdel_run {t : TypeId} {kk : Kk} {es : List (Value × Value)} {ces : Array MapEntry} {clk b : Nat} {k : Value} {ats : Array TypeId} {ty : TypeId} (hat : ats[0]? = some t) (ht : kkMap P t = some kk)
    (hb : w.heap[b]? = some (.map ces clk)) (hm : MRel β kk es ces.toList) (hk : kk.has k = true) :
    ∃ ces' clk', MRel β kk (mapDel k es) ces'.toList ∧ (Builtin.delete_ ats ty #[.map (some b), k]).run P w = .ok (.tuple #[]) (putB w b (.map ces' clk')) := by
  obtain ⟨key, el, d, h1, h2, h3⟩ := kkMap_spec ht
  obtain ⟨s1, s2, s3⟩ := mapDel_spec hk hm.keys hm.dist
  have hkeys : ∀ p ∈ mapDel k es, kk.has p.1 = true := fun p hp => hm.keys p ((s1 p).1 hp).1
  have hf := hm.find hk
  rcases findKey_run (w := w) h2 h3 hk hm.ckeys with ⟨r1, r2⟩ | ⟨j, e, r1, r2, r3⟩
  · refine ⟨ces, clk, ?_, ?_⟩
    · have hnone : mapFind k es = none := hf.1.2 r2
      refine { keys := hkeys, dist := s2, cdist := hm.cdist, fwd := fun p hp => hm.fwd p ((s1 p).1 hp).1, bwd := fun e he => ?_, len := ?_ }
      · obtain ⟨p, hp, hpk, hr⟩ := hm.bwd e he
        exact ⟨p, (s1 p).2 ⟨hp, by rw [hpk]; exact r2 e he⟩, hpk, hr⟩
      · rw [s3, hnone]; simp [hm.len]
    · simp [Builtin.delete_, hat, run_ud h1, run_getObj_map hb, checkKey_run h2 h3 hk, r1, run_setObj_map _ hb]
  · refine ⟨ces.eraseIdxIfInBounds j, clk, ?_, ?_⟩
    · have hmem : e ∈ ces.toList := List.mem_of_getElem? r2
      have hsome : (mapFind k es).isSome = true := by
        cases hq : mapFind k es with
        | some => rfl
        | none => exact absurd r3 (hf.1.1 hq e hmem)
      have her : (ces.eraseIdxIfInBounds j).toList = ces.toList.eraseIdx j := by simp
      have hsub : ∀ {l : List MapEntry} {j : Nat} {e : MapEntry}, l[j]? = some e → CDist l → (∀ x, x ∈ l.eraseIdx j ↔ x ∈ l ∧ x.key ≠ e.key) ∧ CDist (l.eraseIdx j) := by
        intro l
        induction l with
        | nil => intro j e h; simp at h
        | cons a l ih =>
          intro j e h hd
          obtain ⟨hd1, hd2⟩ := List.pairwise_cons.1 hd
          cases j with
          | zero =>
            simp at h; subst h
            refine ⟨fun x => ?_, hd2⟩
            simp only [List.eraseIdx_cons_zero, List.mem_cons]
            constructor
            · intro hx; exact ⟨.inr hx, fun hh => hd1 x hx hh.symm⟩
            · rintro ⟨h | h, hn⟩
              · subst h; exact absurd rfl hn
              · exact h
          | succ j =>
            have h' : l[j]? = some e := by simpa using h
            obtain ⟨i1, i2⟩ := ih h' hd2
            refine ⟨fun x => ?_, ?_⟩
            · simp only [List.eraseIdx_cons_succ, List.mem_cons, i1]
              constructor
              · rintro (h | ⟨h, hn⟩)
                · subst h; exact ⟨.inl rfl, hd1 e (List.mem_of_getElem? h')⟩
                · exact ⟨.inr h, hn⟩
              · rintro ⟨h | h, hn⟩
                · exact .inl h
                · exact .inr ⟨h, hn⟩
            · simp only [List.eraseIdx_cons_succ]
              exact List.pairwise_cons.2 ⟨fun x hx => hd1 x ((i1 x).1 hx).1, i2⟩
      obtain ⟨m1, m2⟩ := hsub r2 hm.cdist
      rw [r3] at m1
      rw [her]
      refine { keys := hkeys, dist := s2, cdist := m2, fwd := fun p hp => ?_, bwd := fun x hx => ?_, len := ?_ }
      · obtain ⟨q1, q2⟩ := (s1 p).1 hp
        obtain ⟨e', he', hek, hr⟩ := hm.fwd p q1
        exact ⟨e', (m1 e').2 ⟨he', by rw [hek]; exact q2⟩, hek, hr⟩
      · obtain ⟨q1, q2⟩ := (m1 x).1 hx
        obtain ⟨p, hp, hpk, hr⟩ := hm.bwd x q1
        exact ⟨p, (s1 p).2 ⟨hp, by rw [hpk]; exact q2⟩, hpk, hr⟩
      · have hlt : j < ces.toList.length := by
          rcases Nat.lt_or_ge j ces.toList.length with h | h
          · exact h
          · rw [List.getElem?_eq_none h] at r2; cases r2
        rw [s3, if_pos hsome, List.length_eraseIdx_of_lt hlt, hm.len]
    · simp [Builtin.delete_, hat, run_ud h1, run_getObj_map hb, checkKey_run h2 h3 hk, r1, run_setObj_map _ hb]

/- a map is another one -/
theorem map_ext {r : Nat} {kk : Kk} {es es' : List (Value × Value)} {ces ces' : Array MapEntry} {clk clk' : Nat} {x : BI} (hr : Rel P nC C β s w) (hb : s.blk r = some (.map kk es)) (hx : β r = some x)
    (hm : MRel β kk es' ces'.toList) (hw : w.heap[x.b]? = some (.map ces clk)) :
    Ext P nC C β s w β (s.put r (.map kk es')) (putB w x.b (.map ces' clk')) := by
  have hin : nC ≤ r := by
    rcases Nat.lt_or_ge r nC with h | h
    · have := hr.conL r _ h hb; cases this
    · exact h
  have nb : ∀ j, (s.put r (.map kk es')).blk j = if r = j then some (.map kk es') else s.blk j := fun j => St.blk_put _ _ _ _
  have same : ∀ j, j ≠ r → (s.put r (.map kk es')).blk j = s.blk j := fun j h => by rw [nb, if_neg (Ne.symm h)]
  have self : ∀ bj, (s.put r (.map kk es')).blk r = some bj → bj = .map kk es' := fun bj h => by rw [nb, if_pos rfl] at h; exact (Option.some.inj h).symm
  have gp : (putB w x.b (.map ces' clk')).heap[x.b]? = some (.map ces' clk') := by rw [putB_get]; simp [lt_of_get hw]
  have old : ∀ j bj, (s.put r (.map kk es')).blk j = some bj → ∃ bj0, s.blk j = some bj0 ∧ bj0.live = bj.live ∧ bj0.own = bj.own ∧ bj0.anc = bj.anc := by
    intro j bj hj
    by_cases hjr : j = r
    · subst hjr; rw [self bj hj]; exact ⟨_, hb, rfl, rfl, rfl⟩
    · rw [same j hjr] at hj; exact ⟨bj, hj, rfl, rfl, rfl⟩
  have rel : Rel P nC C β (s.put r (.map kk es')) (putB w x.b (.map ces' clk')) :=
    { blk := fun j bj hj => by
        by_cases hjr : j = r
        · subst hjr; rw [self bj hj]; exact ⟨x, ces', clk', hx, gp, hm⟩
        · rw [same j hjr] at hj
          have hB := hr.blk j bj hj
          by_cases ho : bj.own = true
          · refine BRel_other hB (fun y hy he => ?_)
            have := hr.sep r j _ _ x y hb rfl hj ho (Ne.symm hjr) hx hy he.symm
            cases this
          · cases bj with
            | hole => trivial
            | map => exact absurd rfl ho
            | cells c' e' l' a' f' =>
              have : c' = [] := by
                cases c' with
                | nil => rfl
                | cons => simp [Blk.own] at ho
              subst this
              obtain ⟨y, dd, lo, hi, r1, r2, r3⟩ := hB
              refine ⟨y, dd, lo, hi, r1, ?_, r3⟩
              rw [putB_get, if_neg (fun hh => by rw [← hh.1, hw] at r2; cases r2)]; exact r2
      out := hr.out
      outB := fun j hj => by rw [same j (by have := hr.id_lt hb; simp at hj; omega)]; exact hr.outB j hj
      sep := fun p q bp bq y z hp hpl hq hqo hne hy hz he => by
        obtain ⟨bp0, p1, p2, p3, p4⟩ := old p bp hp
        obtain ⟨bq0, q1, q2, q3, q4⟩ := old q bq hq
        rw [← p4]; exact hr.sep p q bp0 bq0 y z p1 (by rw [p2]; exact hpl) q1 (by rw [q3]; exact hqo) hne hy hz he
      anc := fun p bp q hp hpl hq => by
        obtain ⟨bp0, p1, p2, p3, p4⟩ := old p bp hp
        obtain ⟨r1, r2, c', e', f', r3⟩ := hr.anc p bp0 q p1 (by rw [p2]; exact hpl) (by rw [p4]; exact hq)
        exact ⟨r1, r2, c', e', f', by rw [same q (fun h => by rw [h, hb] at r3; cases r3)]; exact r3⟩
      con := fun j hj => by rw [same j (by omega)]; exact hr.con j hj
      conL := fun j b' hj hb' => by rw [same j (by omega)] at hb'; exact hr.conL j b' hj hb'
      le := hr.le, glob := hr.glob
      bnd := fun j y hy => by rw [putB_size]; exact hr.bnd j y hy }
  exact
    { mono := fun _ _ h => h, rel := rel, size := by rw [putB_size]; exact Nat.le_refl _, os := rfl, output := rfl, tape := rfl, grow := Nat.le_refl _
      holes := fun j hj => by rw [same j (fun h => by rw [h, hb] at hj; cases hj)]; exact hj
      new := fun _ _ => rfl
      unhole := fun j _ hj => by
        by_cases hji : j = r
        · subst hji; rw [St.blk_put, if_pos rfl] at hj; cases hj
        · rw [same j hji] at hj; exact hj
      keep := fun k _ hn => by rw [putB_get, if_neg (fun hh => hn r _ x hb rfl hx hh.1)]
      rangeL := fun j bj y hj hl hy => by
        obtain ⟨bj0, p1, p2, p3, p4⟩ := old j bj hj
        exact .inr ⟨j, bj0, y, p1, by rw [p2]; exact hl, hy, rfl⟩
      rangeO := fun j bj y hj hl hy => by
        obtain ⟨bj0, p1, p2, p3, p4⟩ := old j bj hj
        exact .inr ⟨j, bj0, y, p1, by rw [p3]; exact hl, hy, rfl⟩ }

end
end Go.Dv
end
section
/- What each operation comes to, together. -/
namespace Go.Dv
section
variable {P : Program} {nC : Nat} {C : Nat → Option Blk} {β : Bm} {s : St} {w : World} {tr : Tr} {ev : Operand → Value} {o : Oper} {v : Value}

def DefRel (β : Bm) (p : FuncId × List Value) (d : Deferred) : Prop :=
  ∃ (cap cargs : List Value), d.target = .fn (.func p.1) ⟨cap⟩ ∧ d.args = ⟨cargs⟩ ∧ LR β p.2 (cargs ++ cap)

def KOk (P : Program) (nC : Nat) (C : Nat → Option Blk) (β : Bm) (ev : Operand → Value) (o : Oper) : K → Prop
  | .pure v => Yl P β ev o v
  | .read r => ∀ s w, Rel P nC C β s w → ∀ v, rdVal s r = some v → ∃ v', VRel β v v' ∧ (execOp ev o).run P w = .ok (.value v') w
  | .alloc b m => b.anc = none ∧ (∀ (γ : Bm) (i : Nat) (x : BI), γ i = some x → x.d = 0 → VRel γ (m.val i) (m.val x.b)) ∧
      ∀ w : World, ∃ ob, NewB P β b ob ∧ (execOp ev o).run P w = .ok (.value (m.val w.heap.size)) { w with heap := w.heap.push ob }
  | .eff e sk => ∀ s w, Rel P nC C β s w → ∀ v s', effD s e = some (v, s') → ∃ β' v' w', Ext P nC C β s w β' s' w' ∧ VRel β' v v' ∧
      (execOp ev o).run P w = .ok (if sk then .skip else .value v') w' ∧ (sk = true → v = undefV)
  | .ins kk r k v => ∃ x v' t, β r = some x ∧ VRel β v v' ∧ kkMap P t = some kk ∧
      (kk.has k = true → ∀ w : World, (execOp ev o).run P w = ((Instr.mapUpdate t (.map (some x.b)) k v').run P w).andThen fun _ w' => .ok .skip w')
  | .call f args => ∃ cargs, LR β args cargs ∧ ∀ w : World, (execOp ev o).run P w = (callFunc f ⟨cargs⟩).run P w
  | .defr f args => ∃ d, DefRel β (f, args) d ∧ ∀ w : World, (execOp ev o).run P w = .ok (.defer d) w
  | .panic v => ∃ v', VRel β v v' ∧ ∀ w : World, (execOp ev o).run P w = .halt (.panic v') w
  | .recover => ∀ w : World, (execOp ev o).run P w = .ok .recover w

theorem exec_w {s : Sem Value} {v' : Value} {w' : World} (hs : execOp ev o = (do pure (.value (← s)))) (hr : s.run P w = .ok v' w') : (execOp ev o).run P w = .ok (.value v') w' := by
  rw [hs]; simp [hr]

theorem kV_isPure {v : Option Value} {k : K} (h : kV v = some k) : ∃ u, k = .pure u := by
  unfold kV at h; split at h <;> simp at h; exact ⟨_, h.symm⟩

/- loads -/
theorem ok_load {t : TypeId} {x : Operand} {k : K} (ho : o.op = .load t x) (he : Evs P β tr ev [x]) (h : opK P tr o = some k) : KOk P nC C β ev o k := by
  simp only [opK, ho] at h
  split at h
  · rename_i i off hx
    split at h
    · rename_i n d hn hd
      obtain ⟨y, hy, hv⟩ := (he x (by simp) _ hx).ptr_inv
      split at h
      · rename_i ha
        cases h
        intro s w hr v hv2
        simp only [rdVal] at hv2
        split at hv2
        · rename_i vs hl
          cases hv2
          obtain ⟨z, vs', h1, h2, h3, h4⟩ := loadD_run hr hl
          rw [hy] at h1; cases h1
          refine ⟨.agg ⟨vs'⟩, .agg h2.1 h2.2, exec_v (by first | (simp only [execOp, ho]; done) | (simp only [execOp, ho]; rfl)) ?_⟩
          simp [hv, Instr.loadAt, Instr.sureAddr, loadVar, run_isAgg hd, ha, run_sz hn, h4]
        · cases hv2
      · rename_i ha
        cases h
        intro s w hr v hv2
        simp only [rdVal] at hv2
        split at hv2
        · rename_i u hl
          cases hv2
          obtain ⟨z, vs', h1, h2, h3, h4⟩ := loadD_run hr hl
          rw [hy] at h1; cases h1
          obtain ⟨u', m, rfl, hu, hm⟩ := h2.cons_inv
          have := hm.nil_inv
          subst this
          refine ⟨u', hu, exec_v (by first | (simp only [execOp, ho]; done) | (simp only [execOp, ho]; rfl)) ?_⟩
          have h5 := load_one h4
          simp only [hv, Instr.loadAt, Sem.run_bind, sureAddr_run, Result.andThen_ok, loadVar, run_isAgg hd, ha, Bool.false_eq_true, if_false]
          exact h5
        · cases hv2
    · cases h
  · cases h

theorem ok_store {t : TypeId} {x y : Operand} {k : K} (ho : o.op = .store t x y) (he : Evs P β tr ev [x, y]) (h : opK P tr o = some k) : KOk P nC C β ev o k := by
  simp only [opK, ho] at h
  split at h
  · rename_i i off u hx hy
    split at h
    · rename_i n hn
      split at h
      · rename_i hlen
        cases h
        have hlen := Nat.eq_of_beq_eq_true hlen
        intro s w hr v s' hs
        simp only [effD] at hs
        split at hs
        · rename_i s1 h1
          cases hs
          obtain ⟨z, hz, hv⟩ := (he x (by simp) _ hx).ptr_inv
          have hyv := he y (by simp) _ hy
          have hcs := hyv.cells
          obtain ⟨z', cc, cc', e, lo, hi, q1, q2, q3, q4, q5⟩ := storeD_ext hr h1 hcs
          rw [hz] at q1; cases q1
          refine ⟨β, undefV, _, q4, scalar_refl _ rfl, ?_, fun _ => rfl⟩
          have hsz : ¬ (ev y).cells.size ≠ n := by
            have := hcs.len
            simp only [Array.length_toList] at this
            rw [this, ← hlen]; simp
          simp only [execOp, ho, hv, Instr.storeAt, Sem.run_bind, sureAddr_run, Result.andThen_ok, storeVar, run_sz hn, if_neg hsz]
          simp only [q5, Result.andThen_ok]
          simp
        · cases hs
      · cases h
    · cases h
  · cases h

/- new blocks -/
theorem newCells {e : TypeId} {c : List Value} {cc : Array Value} (h : LR β c cc.toList) : NewB P β (.cells c e true none 0) (.cells cc e) := by
  refine ⟨rfl, cc, 0, 0, rfl, ?_, fun j v hv => ?_, fun o a b => by omega⟩
  · have := h.len; simp at this; omega
  · obtain ⟨v', q1, q2⟩ := h.getElem hv
    exact ⟨v', by simpa using q1, q2⟩

theorem mk_ptr (γ : Bm) (i : Nat) (x : BI) (h : γ i = some x) (hd : x.d = 0) : VRel γ (Mk.ptr.val i) (Mk.ptr.val x.b) := by
  have := VRel.ptr (o := 0) h
  rw [hd] at this; exact this

theorem mk_slc {l c : Nat} (hc : c < big) (γ : Bm) (i : Nat) (x : BI) (h : γ i = some x) (hd : x.d = 0) : VRel γ ((Mk.slc l c).val i) ((Mk.slc l c).val x.b) := by
  have := VRel.slice (o := 0) (l := l) h hc
  rw [hd] at this; exact this

theorem mk_map (γ : Bm) (i : Nat) (x : BI) (h : γ i = some x) (_ : x.d = 0) : VRel γ (Mk.map.val i) (Mk.map.val x.b) := VRel.map h

theorem ok_alloc {t : TypeId} {k : K} (ho : o.op = .alloc t) (h : opK P tr o = some k) : KOk P nC C β ev o k := by
  simp only [opK, ho] at h
  split at h
  · rename_i z hz
    cases h
    refine ⟨rfl, mk_ptr, fun w => ⟨_, newCells (scalar_refl z (zeroD_scalar hz)).cells, exec_w (o := o) (ev := ev) (by first | (simp only [execOp, ho]; done) | (simp only [execOp, ho]; rfl)) ?_⟩⟩
    simp only [Instr.alloc, Sem.run_bind, run_zero hz, Result.andThen_ok]
    rfl
  · cases h

theorem ok_box {t : TypeId} {x : Operand} {k : K} (ho : o.op = .box t x) (he : Evs P β tr ev [x]) (h : opK P tr o = some k) : KOk P nC C β ev o k := by
  simp only [opK, ho] at h
  split at h
  · rename_i u n hx hn
    cases h
    refine ⟨rfl, mk_ptr, fun w => ⟨_, newCells (he x (by simp) _ hx).cells, exec_w (o := o) (ev := ev) (by first | (simp only [execOp, ho]; done) | (simp only [execOp, ho]; rfl)) rfl⟩⟩
  · cases h

theorem room_big {n : Nat} (h : n ≤ room) : n < big := by unfold room at h; unfold big; omega

theorem elem_run {t : TypeId} {size : Nat} {z : List Value} (h : elemD P t = some (size, z)) :
    ∃ zv i, (∀ w : World, (zeroValue t).run P w = .ok zv w) ∧ (∀ w : World, (sizeOf t).run P w = .ok size w) ∧ (∀ w : World, (typeInfo t).run P w = .ok i w) ∧
      zv.cells.toList = z ∧ 1 ≤ zv.cells.toList.length ∧ size = z.length ∧ 1 ≤ size ∧ i.bytes ≤ room ∧ LR β z z ∧ allCells z = true := by
  obtain ⟨i, zv, hi, hz, hzc, hsc, his, hsl, h1s, hby, hac⟩ := elemD_spec h
  refine ⟨zv, i, fun w => by simp [zeroValue, typeInfo, hi, hz], fun w => by simp [sizeOf, typeInfo, hi, his], fun w => by simp [typeInfo, hi], hzc, by rw [hzc, ← hsl]; exact h1s, hsl, h1s, hby, ?_, hac⟩
  rw [← hzc]; exact (scalar_refl zv hsc).cells

theorem repZ_rel {z : List Value} (h : LR β z z) (n : Nat) : LR β (repZ z n) (repZ z n) := by
  induction n with
  | zero => exact .nil
  | succ n ih => exact h.append ih

theorem ok_buildSlice {t : TypeId} {len : Nat} {parts : Array (Nat × Operand)} {k : K} (ho : o.op = .buildSlice t len parts) (he : Evs P β tr ev (parts.toList.map (·.2))) (h : opK P tr o = some k) :
    KOk P nC C β ev o k := by
  simp only [opK, ho] at h
  split at h
  · rename_i elem ps hu hps
    split at h
    · rename_i sz z hE
      split at h
      · rename_i hle
        have hle : len * sz ≤ room := Nat.le_of_ble_eq_true hle
        split at h
        · rename_i cs hf
          cases h
          obtain ⟨zv, i, r1, r2, r3, r4, r5, r6, r7, r8, r9, _⟩ := elem_run (β := β) hE
          have hlr : len ≤ room := by
            have : len * 1 ≤ len * sz := Nat.mul_le_mul_left _ r7
            omega
          have hpr := partsD_rel he hps
          have hz2 : LR β (repZ z len) ((Array.range (len * zv.cells.size)).map (fun i => zv.cells[i % zv.cells.size]!)).toList := by
            rw [range_map_repZ _ r5, r4]; exact repZ_rel r9 len
          obtain ⟨r', hr', hlr'⟩ := fill_rel (place' := fun i => some (i * sz, sz)) (fun i p hp => hp) hpr hz2 hf
          refine ⟨rfl, mk_slc (room_big hlr), fun w => ⟨_, newCells hlr', exec_w (o := o) (ev := ev) (by first | (simp only [execOp, ho]; done) | (simp only [execOp, ho]; rfl)) ?_⟩⟩
          have hsz : zv.cells.size = sz := by have := congrArg List.length r4; simp at this; omega
          have hno : ¬ (len * sz > 2 ^ 24) := by unfold room at hle; omega
          have hmap : (parts.map fun (i, x) => (i, ev x)).toList = parts.toList.map fun (i, x) => (i, ev x) := by simp
          simp only [Instr.buildSlice, Sem.run_bind, run_ud hu, Result.andThen_ok, r2, if_neg hno]
          by_cases h0 : len * sz = 0
          · have hlen : len = 0 := by rcases Nat.mul_eq_zero.1 h0 with h | h <;> omega
            subst hlen
            simp only [Nat.zero_mul, if_true, hmap]
            have e0 : ∀ f : Nat → Value, (Array.range 0).map f = #[] := fun f => by simp
            rw [Nat.zero_mul, e0] at hr'
            simp only [pure_bind, e0]
            rw [hr']
            rfl
          · simp only [if_neg h0, Sem.run_bind, r1, Result.andThen_ok, Sem.run_pure, hmap]
            rw [← hsz] at hr' ⊢
            rw [hr']
            rfl
        · cases h
      · cases h
    · cases h
  · cases h

end
end Go.Dv
end
section
/- Operations, further. -/
namespace Go.Dv
section
variable {P : Program} {nC : Nat} {C : Nat → Option Blk} {β : Bm} {s : St} {w : World} {tr : Tr} {ev : Operand → Value} {o : Oper} {v : Value}

theorem ok_makeSlice {t : TypeId} {l c : Operand} {k : K} (ho : o.op = .makeSlice t l c) (he : Evs P β tr ev [l, c]) (h : opK P tr o = some k) : KOk P nC C β ev o k := by
  simp only [opK, ho] at h
  split at h
  · rename_i elem k1 n1 k2 n2 hu hl hc
    simp only [fNat_eq] at h
    split at h
    · rename_i sz z hE h1 h2
      cases h
      have h1 := Nat.le_of_ble_eq_true h1
      have h2 := Nat.le_of_ble_eq_true h2
      have el : ev l = .int k1 ((n1 : Nat) : Int) := (he l (by simp) _ hl).int_inv
      have ec : ev c = .int k2 ((n2 : Nat) : Int) := (he c (by simp) _ hc).int_inv
      obtain ⟨zv, i, r1, r2, r3, r4, r5, r6, r7, r8, r9, _⟩ := elem_run (β := β) hE
      have hsz : zv.cells.size = sz := by have := congrArg List.length r4; simp at this; omega
      refine ⟨rfl, mk_slc (room_big h2), fun w => ⟨.cells ⟨repZ z n2⟩ elem, newCells (repZ_rel r9 n2), exec_w (o := o) (ev := ev) (by first | (simp only [execOp, ho]; done) | (simp only [execOp, ho]; rfl)) ?_⟩⟩
      have w1 : IntKind.i64.wrap (n1 : Int) = n1 := wrap_small (by omega)
      have w2 : IntKind.i64.wrap (n2 : Int) = n2 := wrap_small h2
      have e0 : ∀ (k : IntKind) (n : Int) (w : World), (asInt (.int k n)).run P w = .ok n w := fun _ _ _ => rfl
      have hb : ¬ ((281474976710656 : Int) < (i.bytes : Int) * (n2 : Int)) := by
        have : i.bytes * n2 ≤ room * room := Nat.mul_le_mul r8 h2
        have h2 : ((i.bytes * n2 : Nat) : Int) ≤ ((room * room : Nat) : Int) := Int.ofNat_le.2 this
        rw [Int.natCast_mul] at h2
        unfold room at h2
        omega
      have a1 : ¬ ((n2 : Int) < 0) := by omega
      have a2 : ¬ ((n1 : Int) < 0) := by omega
      have a3 : ¬ ((n2 : Int) < (n1 : Int)) := by omega
      have hrange := range_map_repZ zv.cells r5 n2
      rw [r4] at hrange
      simp only [el, ec, Instr.makeSlice, Sem.run_bind, run_ud hu, Result.andThen_ok, e0, r3]
      by_cases h0 : n2 * sz = 0
      · have hn : n2 = 0 := by rcases Nat.mul_eq_zero.1 h0 with h | h <;> omega
        subst hn
        have hn1 : n1 = 0 := by omega
        subst hn1
        have w0 : IntKind.i64.wrap 0 = 0 := by decide
        simp [w0, r2, newRow, repZ, Mk.val]
        congr 2
        simp
      · rw [← hsz] at h0 r2
        simp [w1, w2, a1, a2, a3, hb, r2, h0, r1, newRow, Mk.val, hrange]
    · cases h
  · cases h

theorem ok_makeMap {t : TypeId} {r : Option Operand} {k : K} (ho : o.op = .makeMap t r) (h : opK P tr o = some k) : KOk P nC C β ev o k := by
  simp only [opK, ho] at h
  split at h
  · rename_i kk hkk
    cases h
    refine ⟨rfl, mk_map, fun w => ⟨.map #[] 0, ⟨#[], 0, rfl, ?_⟩, exec_w (o := o) (ev := ev) (by first | (simp only [execOp, ho]; done) | (simp only [execOp, ho]; rfl)) rfl⟩⟩
    exact { keys := fun p hp => (by cases hp), dist := .nil, cdist := .nil, fwd := fun p hp => (by cases hp), bwd := fun p hp => (by cases hp), len := rfl }
  · cases h

theorem ok_lookup {t : TypeId} {x ix : Operand} {ok : Bool} {k : K} (ho : o.op = .lookup t x ix ok) (he : Evs P β tr ev [x, ix]) (h : opK P tr o = some k) : KOk P nC C β ev o k := by
  simp only [opK, ho] at h
  split at h
  · rename_i m kv key elem hx hi hu
    split at h
    · rename_i kk z hkk hz
      split at h
      · rename_i hk
        cases h
        have hi' := (he ix (by simp) _ hi).scalar_eq (has_scalar hk)
        have hx' := he x (by simp) _ hx
        obtain ⟨d, hd⟩ : ∃ d, P.underlying key = some d := by
          cases hq : P.underlying key with
          | none => rw [hq] at hkk; simp [kkOf] at hkk
          | some d => exact ⟨d, rfl⟩
        rw [hd] at hkk
        have okr : ∀ {a a' : Value} (b : Bool), VRel β a a' → VRel β (okV ok a b) (if ok then .tuple #[a', .bool b] else a') := fun b h => okV_rel h ok b
        intro s w hr v hv
        cases m with
        | none =>
          simp only [rdVal, Option.some.injEq] at hv
          subst hv
          have : ev x = .map none := hx'.scalar_eq rfl
          refine ⟨_, okr false (scalar_refl z (zeroD_scalar hz)), exec_v (by first | (simp only [execOp, ho]; done) | (simp only [execOp, ho]; rfl)) ?_⟩
          have hfk : (Instr.findKey key kv (#[] : Array MapEntry).toList).run P w = .ok none w := by
            rcases findKey_run (w := w) (es := []) hd hkk hk (fun e he => by cases he) with ⟨h1, _⟩ | ⟨j, e, _, h2, _⟩
            · exact h1
            · simp at h2
          simp only [this, hi', Instr.lookup, Sem.run_bind, run_ud hu, Result.andThen_ok, Sem.run_pure, checkKey_run hd hkk hk, hfk, run_zero hz]
        | some r =>
          obtain ⟨y, hy, hxe⟩ := hx'.map_inv
          simp only [rdVal] at hv
          split at hv
          · rename_i kk' es hb
            split at hv
            · rename_i hk'
              obtain ⟨y', ces, clk, q1, q2, q3⟩ := hr.blk _ _ hb
              rw [hy] at q1; cases q1
              have hkeq := has_inj hk hk'
              subst hkeq
              have hf := q3.find hk
              rcases findKey_run (w := w) hd hkk hk q3.ckeys with ⟨r1, r2⟩ | ⟨j, e, r1, r2, r3⟩
              · rw [hf.1.2 r2] at hv
                simp only [Option.some.injEq] at hv
                subst hv
                refine ⟨_, okr false (scalar_refl z (zeroD_scalar hz)), exec_v (by first | (simp only [execOp, ho]; done) | (simp only [execOp, ho]; rfl)) ?_⟩
                simp only [hxe, hi', Instr.lookup, Sem.run_bind, run_ud hu, Result.andThen_ok, run_getObj_map q2, Sem.run_pure, checkKey_run hd hkk hk, r1, run_zero hz]
              · have hmem : e ∈ ces.toList := List.mem_of_getElem? r2
                cases hq : mapFind kv es with
                | none => exact absurd r3 (hf.1.1 hq e hmem)
                | some u =>
                  rw [hq] at hv
                  simp only [Option.some.injEq] at hv
                  subst hv
                  refine ⟨_, okr true (hf.2 u e hq hmem r3), exec_v (by first | (simp only [execOp, ho]; done) | (simp only [execOp, ho]; rfl)) ?_⟩
                  simp only [hxe, hi', Instr.lookup, Sem.run_bind, run_ud hu, Result.andThen_ok, run_getObj_map q2, Sem.run_pure, checkKey_run hd hkk hk, r1]
            · cases hv
          · cases hv
      · cases h
    · cases h
  · cases h

theorem mset_eff {t : TypeId} {kk : Kk} {r : Nat} {k u u' v : Value} {x : BI} {s' : St} (ht : kkMap P t = some kk) (hx : β r = some x) (hu : VRel β u u') (hr : Rel P nC C β s w)
    (h : effD s (.mset kk r k u) = some (v, s')) :
    kk.has k = true ∧ v = undefV ∧ ∃ w', Ext P nC C β s w β s' w' ∧ (Instr.mapUpdate t (.map (some x.b)) k u').run P w = .ok () w' := by
  simp only [effD] at h
  split at h
  · rename_i kk' es hb
    split at h
    · rename_i h1 h2
      cases h
      obtain ⟨y, ces, clk, q1, q2, q3⟩ := hr.blk _ _ hb
      rw [hx] at q1; cases q1
      have := has_inj h1 h2
      subst this
      obtain ⟨ces', clk', r1, r2⟩ := mset_run ht q2 q3 h1 hu
      exact ⟨h1, rfl, _, map_ext hr hb hx r1 q2, r2⟩
    · cases h
  · cases h

theorem ok_mapUpdate {t : TypeId} {m key x : Operand} {k : K} (ho : o.op = .mapUpdate t m key x) (he : Evs P β tr ev [m, key, x]) (h : opK P tr o = some k) : KOk P nC C β ev o k := by
  simp only [opK, ho] at h
  split at h
  · rename_i r kv u hm hk hx
    split at h
    · rename_i kk hkk
      cases h
      intro s w hr v s' hs
      obtain ⟨y, hy, hme⟩ := (he m (by simp) _ hm).map_inv
      obtain ⟨h1, h2, w', h3, h4⟩ := mset_eff hkk hy (he x (by simp) _ hx) hr hs
      have hke := (he key (by simp) _ hk).scalar_eq (has_scalar h1)
      refine ⟨β, undefV, w', h3, by rw [h2]; exact scalar_refl _ rfl, ?_, fun _ => h2⟩
      simp only [execOp, ho, hme, hke, Sem.run_bind, h4, Result.andThen_ok]
      simp
    · cases h
  · cases h

theorem ok_insert {t : TypeId} {m key x : Operand} {k : K} (ho : o.op = .insert t m key x) (he : Evs P β tr ev [m, key, x]) (h : opK P tr o = some k) : KOk P nC C β ev o k := by
  simp only [opK, ho] at h
  split at h
  · rename_i r kv u hm hk hx
    split at h
    · rename_i kk hkk
      cases h
      obtain ⟨y, hy, hme⟩ := (he m (by simp) _ hm).map_inv
      refine ⟨y, ev x, t, hy, he x (by simp) _ hx, hkk, fun hh w => ?_⟩
      have hke := (he key (by simp) _ hk).scalar_eq (has_scalar hh)
      simp only [execOp, ho, hme, hke, Sem.run_bind]
      rfl
    · cases h
  · cases h

end
end Go.Dv
end
section
/- Bytes that a string shares. -/
namespace Go.Dv
section
variable {P : Program} {nC : Nat} {C : Nat → Option Blk} {β : Bm} {s : St} {w : World}

theorem dead_ext {i fz : Nat} {c : List Value} {e : TypeId} {anc : Option Nat} {x : BI} {cc : Array Value} {f f' : Nat × Nat} (hr : Rel P nC C β s w) (hb : s.blk i = some (.cells c e true anc fz))
    (hx : β i = some x) (hw : w.heap[x.b]? = some (.cells cc e f)) : Ext P nC C β s w β (s.put i (.cells c e false none 0)) (putB w x.b (.cells cc e f')) := by
  have hin : nC ≤ i := by
    rcases Nat.lt_or_ge i nC with h | h
    · have := hr.conL i _ h hb; cases this
    · exact h
  have nb : ∀ j, (s.put i (.cells c e false none 0)).blk j = if i = j then some (.cells c e false none 0) else s.blk j := fun j => St.blk_put _ _ _ _
  have same : ∀ j, j ≠ i → (s.put i (.cells c e false none 0)).blk j = s.blk j := fun j q1 => by rw [nb, if_neg (Ne.symm q1)]
  have self : (s.put i (.cells c e false none 0)).blk i = some (.cells c e false none 0) := by rw [nb, if_pos rfl]
  have own : (Blk.cells c e true anc fz).own = true := rfl
  have live : ∀ j bj, (s.put i (.cells c e false none 0)).blk j = some bj → bj.live = true → j ≠ i ∧ s.blk j = some bj := by
    intro j bj hj hl
    by_cases hji : j = i
    · subst hji; rw [self] at hj; cases hj; cases hl
    · exact ⟨hji, by rw [← same j hji]; exact hj⟩
  have gp : (putB w x.b (.cells cc e f')).heap[x.b]? = some (.cells cc e f') := by rw [putB_get]; simp [lt_of_get hw]
  have rel : Rel P nC C β (s.put i (.cells c e false none 0)) (putB w x.b (.cells cc e f')) :=
    { blk := fun j bj hj => by
        by_cases hji : j = i
        · subst hji
          rw [self] at hj; cases hj
          obtain ⟨x', cc', lo, hi, b1, b2, b3, b4, b5, b6⟩ := hr.blk _ _ hb
          rw [hx] at b1; cases b1
          rw [hw] at b2; cases b2
          exact ⟨x, cc, f'.1, f'.2, hx, gp, b3, b4, b5, fun hh => by cases hh⟩
        · rw [same j hji] at hj
          have hB := hr.blk j bj hj
          by_cases hy : ∃ y, β j = some y ∧ y.b = x.b
          · obtain ⟨y, hy1, hy2⟩ := hy
            have dead : bj.own = true → bj.live = false := by
              intro ho
              have := hr.sep i j _ bj x y hb rfl hj ho (Ne.symm hji) hx hy1 hy2.symm
              obtain ⟨_, _, c2, e2, f2, h2⟩ := hr.anc i _ j hb rfl this
              rw [hj] at h2; cases h2; rfl
            cases bj with
            | hole => trivial
            | map kk es =>
              have := dead rfl
              cases this
            | cells c2 e2 l2 a2 f2 =>
              have hl : l2 = false := by
                cases l2 with
                | false => rfl
                | true => exact dead rfl
              subst hl
              obtain ⟨x', cc', lo, hi, b1, b2, b3, b4, b5, b6⟩ := hB
              rw [hy1] at b1; cases b1
              rw [hy2, hw] at b2; cases b2
              exact ⟨y, cc, f'.1, f'.2, hy1, by rw [hy2]; exact gp, b3, b4, b5, fun hh => by cases hh⟩
          · exact BRel_other hB (fun y hy1 hy2 => hy ⟨y, hy1, hy2⟩)
      out := hr.out
      outB := fun j hj => by
        rw [same j (fun hh => by have := hr.id_lt hb; simp only [St.n_put] at hj; omega)]; exact hr.outB j hj
      sep := fun j k bj bk y z hj hl hk ho hjk hy hz hyz => by
        obtain ⟨q1, q2⟩ := live j bj hj hl
        by_cases hki : k = i
        · subst hki
          exact hr.sep j k bj _ y z q2 hl hb own hjk hy hz hyz
        · exact hr.sep j k bj bk y z q2 hl (by rw [← same k hki]; exact hk) ho hjk hy hz hyz
      anc := fun j bj k hj hl ha => by
        obtain ⟨q1, q2⟩ := live j bj hj hl
        obtain ⟨r1, r2, c2, e2, f2, r3⟩ := hr.anc j bj k q2 hl ha
        refine ⟨r1, r2, c2, e2, f2, ?_⟩
        rw [same k (fun hh => by subst hh; rw [hb] at r3; cases r3)]; exact r3
      con := fun j hj => by rw [same j (by omega)]; exact hr.con j hj
      conL := fun j bj hj hb' => by rw [same j (by omega)] at hb'; exact hr.conL j bj hj hb'
      le := hr.le
      glob := hr.glob
      bnd := fun j y hy => by rw [putB_size]; exact hr.bnd j y hy }
  exact
    { mono := fun _ _ h => h, rel, size := by rw [putB_size]; exact Nat.le_refl _
      keep := fun b hb' hn => by
        rw [putB_get, if_neg]
        rintro ⟨h1, _⟩
        exact hn i _ x hb rfl hx h1
      rangeL := fun j bj y hj hl hy => .inr ⟨j, bj, y, (live j bj hj hl).2, hl, hy, rfl⟩
      rangeO := fun j bj y hj hl hy => by
        by_cases hji : j = i
        · subst hji; exact .inr ⟨j, _, y, hb, own, hy, rfl⟩
        · exact .inr ⟨j, bj, y, by rw [← same j hji]; exact hj, hl, hy, rfl⟩
      os := rfl, output := rfl, tape := rfl, grow := Nat.le_refl _
      new := fun _ _ => rfl
      unhole := fun j _ hj => by
        by_cases hji : j = i
        · subst hji; rw [self] at hj; cases hj
        · rw [same j hji] at hj; exact hj
      holes := fun j hj => by
        rw [same j (fun hh => by subst hh; rw [hb] at hj; cases hj)]; exact hj }

theorem loadBytes_run : ∀ (vs : List Value) (bs : List UInt8) (b o : Nat) (acc : ByteArray) (cc : Array Value) (e : TypeId) (f : Nat × Nat), bytesD vs = some bs →
    w.heap[b]? = some (.cells cc e f) → (∀ k v, vs[k]? = some v → cc[o + k]? = some v) → (loadBytes ⟨b, o, none⟩ acc vs.length).run P w = .ok ⟨⟨acc.data.toList ++ bs⟩⟩ w := by
  intro vs
  induction vs with
  | nil =>
    intro bs b o acc cc e f h hb hk
    simp only [bytesD, Option.some.injEq] at h
    subst h
    simp [loadBytes]
  | cons v vs ih =>
    intro bs b o acc cc e f h hb hk
    unfold bytesD at h
    split at h
    · rename_i hh; cases hh
    · rename_i n vs' heq
      cases heq
      split at h
      · rename_i bs' hbs
        cases h
        have h0 := hk 0 _ rfl
        simp only [List.length_cons, loadBytes, Sem.run_bind, run_load, cell_of hb, Nat.add_zero] at h0 ⊢
        rw [h0]
        simp only [Result.andThen_ok, add_eq]
        rw [ih bs' b (o + 1) _ cc e f hbs hb (fun k v hv => by rw [show o + 1 + k = o + (k + 1) by omega]; exact hk (k + 1) v (by simpa using hv))]
        congr 1
        congr 1
        apply Array.ext'
        simp [ByteArray.push]
      · cases h
    · cases h

theorem bytesD_same {vs vs' : List Value} {bs : List UInt8} (h : bytesD vs = some bs) (hr : LR β vs vs') : vs' = vs := by
  induction vs generalizing vs' bs with
  | nil => exact hr.nil_inv
  | cons v vs ih =>
    obtain ⟨v', l', rfl, hv, hl⟩ := hr.cons_inv
    unfold bytesD at h
    split at h
    · rename_i hh; cases hh
    · rename_i heq
      cases heq
      split at h
      · rename_i hbs
        rw [hv.int_inv, ih hbs hl]
      · cases h
    · cases h

theorem variablesAt_run {b o n : Nat} {cc : Array Value} {e : TypeId} {f : Nat × Nat} (hb : w.heap[b]? = some (.cells cc e f)) (hs : sizeD P e = some 1) (hn : o + n ≤ cc.size) :
    (variablesAt ⟨b, o, none⟩ e n).run P w = .ok true w := by
  have hc : P.cellsOf e = 1 := by
    unfold sizeD at hs
    split at hs
    · rename_i i hi; simp only [Option.some.injEq] at hs; simp [Program.cellsOf, hi, hs]
    · cases hs
  have hsh : w.shape? b = some (e, cc.size) := by simp [World.shape?, hb]
  have hd : ∃ d, P.depth = d + 1 := ⟨_, rfl⟩
  obtain ⟨d, hd⟩ := hd
  simp only [variablesAt, Sem.run_bind, run_program, Result.andThen_ok, run_shape, hsh, Sem.run_pure, hd]
  congr 1
  have h1 : rowAt P (fun x => sameLayout P P.depth x e) P.depth e cc.size o n = true := by
    rw [hd]
    simp [rowAt, hc, sameLayout, Nat.mod_one, hn]
  simp [liesAt, hc, h1]

end
end Go.Dv
end
section
/- Operations: the rest. -/
namespace Go.Dv
section
variable {P : Program} {nC : Nat} {C : Nat → Option Blk} {β : Bm} {s : St} {w : World} {tr : Tr} {ev : Operand → Value} {o : Oper} {v : Value}

theorem allCells_append {a b : List Value} (ha : allCells a = true) (hb : allCells b = true) : allCells (a ++ b) = true := by
  induction a with
  | nil => exact hb
  | cons x a ih =>
    simp only [List.cons_append, allCells] at ha ⊢
    split at ha
    · exact ih ha
    · cases ha

theorem allCells_repZ {z : List Value} (h : allCells z = true) (n : Nat) : allCells (repZ z n) = true := by
  induction n with
  | zero => rfl
  | succ n ih => exact allCells_append h ih

theorem bytesV_rel (l : List UInt8) : LR β (bytesV l) (bytesV l) := by
  induction l with
  | nil => exact .nil
  | cons b l ih => exact .cons (.int _ _) ih

theorem firstD_run {size n : Nat} {x x' : Value} {xs : List Value} (hr : Rel P nC C β s w) (h : firstD s size n x = some xs) (hx : VRel β x x') (hl : ∃ l, lenD x = some l ∧ n ≤ l) :
    ∃ xs', LR β xs xs' ∧ xs.length = n * size ∧ (Builtin.firstCells size n x').run P w = .ok ⟨xs'⟩ w ∧ (Builtin.firstCells size n x').run P w.drew = .ok ⟨xs'⟩ w.drew := by
  have hr' : Rel P nC C β s w.drew := hr.heap rfl
  unfold firstD at h
  split at h
  · rename_i i off l c
    split at h
    · rename_i hnl
      split at h
      · rename_i h0
        have h0 : n * size = 0 := Nat.eq_of_beq_eq_true h0
        cases h
        cases hx with
        | slice | sliceU | sliceE => exact ⟨[], .nil, by simp [h0], by rw [firstCells_slice, h0]; rfl, by rw [firstCells_slice, h0]; rfl⟩
      · rename_i h0
        have h0 : n * size ≠ 0 := fun hh => by rw [show Nat.mul n size = 0 from hh] at h0; simp at h0
        have hn0 : n ≠ 0 := fun hh => h0 (by rw [hh, Nat.zero_mul])
        have hnl := Nat.le_of_ble_eq_true hnl
        obtain ⟨y, vs', h1, h2, h3, h4⟩ := loadD_run hr h
        obtain ⟨y2, vs2, g1, g2, g3, g4⟩ := loadD_run hr' h
        rw [h1] at g1; cases g1
        have e : vs2 = vs' := by
          have hsame : (loadCells ⟨y.b, y.d + off, none⟩ (n * size)).run P w.drew = .ok ⟨vs'⟩ w.drew := by
            unfold loadD at h
            split at h
            · rename_i c0 e0 l0 a0 f0 hb0
              split at h
              · rename_i hle0
                obtain ⟨x0, cc, lo, hi, q1, q2, q3, q4, q5, q6⟩ := cells_inv (hr.blk _ _ hb0)
                rw [h1] at q1; cases q1
                have hle0 : off + n * size ≤ c0.length := Nat.le_of_ble_eq_true hle0
                have r1 := loadCells_run (P := P) (n := n * size) (o := y.d + off) q2 (by omega)
                rw [show Nat.mul n size = n * size from rfl, r1] at h4
                have r2 := loadCells_run (P := P) (w := w.drew) (n := n * size) (o := y.d + off) q2 (by omega)
                rw [r2]
                injection h4 with h5
                rw [h5]
              · cases h
            · cases h
          rw [show Nat.mul n size = n * size from rfl, hsame] at g4
          injection g4 with g5
          injection g5 with g6
          exact g6.symm
        subst e
        cases hx with
        | slice hb hc => rw [h1] at hb; cases hb; exact ⟨vs2, h2, h3, h4, g4⟩
        | sliceU hb _ _ => rw [h1] at hb; cases hb; exact ⟨vs2, h2, h3, h4, g4⟩
        | sliceE a hc => omega
    · cases h
  · rename_i l c
    split at h
    · rename_i h0
      have h0 := Nat.eq_of_beq_eq_true h0
      cases h
      cases hx
      exact ⟨[], .nil, by simp [h0], rfl, rfl⟩
    · cases h
  · rename_i b
    split at h
    · rename_i h1
      have h1 := Nat.eq_of_beq_eq_true h1
      cases h
      cases hx
      obtain ⟨l, hl1, hl2⟩ := hl
      simp only [lenD, Option.some.injEq] at hl1
      have e : ((b.extract 0 n).data.map fun b => Value.int .u8 b.toNat) = ⟨bytesV (b.data.toList.take n)⟩ := by
        apply Array.ext'
        rw [string_slc]
        simp [bytesV, slc]
      refine ⟨_, bytesV_rel _, ?_, ?_, ?_⟩
      · simp only [bytesV, List.length_map, List.length_take, h1]
        have : b.data.toList.length = b.size := by rw [Array.length_toList]; rfl
        omega
      · simp only [Builtin.firstCells, Sem.run_pure, e]
      · simp only [Builtin.firstCells, Sem.run_pure, e]
    · cases h
  · cases h

theorem lenOf_run {x x' : Value} {m : Nat} (h : lenD x = some m) (hx : VRel β x x') (w : World) : (Builtin.lenOf x').run P w = .ok m w := by
  unfold lenD at h
  split at h
  · cases h; cases hx <;> rfl
  · cases h; cases hx; rfl
  · cases h

theorem append_cells {st xt elem : TypeId} {size m len cap : Nat} {z xs xs' : List Value} {base : Option Addr} {x' cb v : Value} {s' : St} {c : Call}
    (hr : Rel P nC C β s w) (hst : P.underlying st = some (.slice elem)) (hE : elemD P elem = some (size, z)) (hcb : VRel β (.slice base len cap) cb)
    (hx : AppIn P w elem size xt x' m xs') (hxs : LR β xs xs') (hlx : xs.length = m * size) (hac : allCells xs = true) (h : appendD s elem size base len cap xs m = some (v, s'))
    (hb : c.callee = .builtin .append) (ho : o.op = .call c) (hat : c.argTypes = #[st, xt]) (hvs : c.args.map ev = ⟨[cb, x']⟩) :
    ∃ β' v' w', Ext P nC C β s w β' s' w' ∧ VRel β' v v' ∧ (execOp ev o).run P w = .ok (.value v') w' := by
  obtain ⟨β', v', w', h1, h2, h3⟩ := appendD_ext (ty := o.type) hr h hcb hxs hlx hst hE hx (by rw [hxs.allCells]; exact hac)
  refine ⟨β', v', w', h1, h2, ?_⟩
  rw [run_builtin ho hb, hat, hvs]
  simp only [builtin, Sem.run_bind]
  rw [h3]
  simp

def CopyTo (P : Program) (w : World) (xs : List Value) (w' : World) : Value → Prop
  | .slice (some a) _ _ => (storeCells a xs).run P w = .ok () w'
  | .slice none _ _ => w' = w
  | _ => False

theorem ok_builtin {c : Call} {b : Builtin} {args : List Value} {k : K} (ho : o.op = .call c) (hc : c.callee = .builtin b) (ha : LR β args (c.args.toList.map ev))
    (h : builtinK P b c.argTypes.toList args = some k) : KOk P nC C β ev o k := by
  have h0 := h
  obtain ⟨vs', hvs, hlr⟩ := args_of ha
  unfold builtinK at h
  split at h
  · -- len
    rename_i x
    obtain ⟨x', r, rfl, hx, hr1⟩ := hlr.cons_inv
    have := hr1.nil_inv
    subst this
    split at h
    · rename_i t hat
      have hat : c.argTypes = #[t] := by apply Array.ext'; simpa using hat
      split at h
      · simp only [fNat_eq] at h; cases h; exact yl_builtin ho hc ha h0
      · cases h; exact yl_builtin ho hc ha h0
      · simp only [fNat_eq] at h; cases h; exact yl_builtin ho hc ha h0
      · cases h; exact yl_builtin ho hc ha h0
      · rename_i r hu
        cases h
        intro s w hr v hv
        simp only [rdVal] at hv
        split at hv
        · rename_i kk es hb
          simp only [fNat_eq, Option.some.injEq] at hv
          subst hv
          obtain ⟨y, ces, clk, q1, q2, q3⟩ := hr.blk _ _ hb
          obtain ⟨y', hy, hxe⟩ := hx.map_inv
          rw [q1] at hy; cases hy
          refine ⟨_, .int _ _, ?_⟩
          rw [run_builtin ho hc, hvs, hat, hxe]
          simp only [builtin, Sem.run_bind, Builtin.len_]
          simp [run_ud hu, run_getObj_map q2, goInt, q3.len]
        · cases hv
      · cases h
    · cases h
  · -- cap
    repeat (split at h <;> try (cases h; done))
    all_goals (cases h; exact yl_builtin ho hc ha h0)
  · -- min
    obtain ⟨u, rfl⟩ := kV_isPure h
    exact yl_builtin ho hc ha h0
  · obtain ⟨u, rfl⟩ := kV_isPure h
    exact yl_builtin ho hc ha h0
  · -- append
    rename_i base len cap x
    obtain ⟨cb, r, rfl, hcb, hr1⟩ := hlr.cons_inv
    obtain ⟨x', r, rfl, hx, hr1⟩ := hr1.cons_inv
    have := hr1.nil_inv
    subst this
    split at h
    · rename_i st xt hat
      have hat : c.argTypes = #[st, xt] := by apply Array.ext'; simpa using hat
      split at h
      · rename_i elem hst
        split at h
        · -- of make
          rename_i size z k' hE hxt
          split at h
          · rename_i m hm
            simp only [fNat_eq] at h
            split at h
            · rename_i hroom
              have hroom := Nat.le_of_ble_eq_true hroom
              cases h
              intro s w hr v s' hs
              have hxi : ∃ kk, x = .int kk (m : Int) := by
                unfold asNatI at hm
                split at hm
                · cases hm; exact ⟨_, rfl⟩
                · cases hm
              obtain ⟨kk, rfl⟩ := hxi
              have := hx.int_inv
              subst this
              obtain ⟨_, _, _, _, _, _, _, _, _, _, r9, r10⟩ := elem_run (β := β) hE
              obtain ⟨β', v', w', q1, q2, q3⟩ := append_cells hr hst hE hcb
                ⟨_, hxt, .inl ⟨⟨_, rfl⟩, ⟨_, rfl⟩, hroom, _, hE, rfl⟩⟩ (repZ_rel r9 m) (by rw [repZ_length]; have := (elemD_spec hE); obtain ⟨_, _, _, _, _, _, _, hsl, _⟩ := this; rw [hsl]) (allCells_repZ r10 m) hs hc ho hat hvs
              exact ⟨β', v', w', q1, q2, by simpa using q3, fun hh => by cases hh⟩
            · cases h
          · cases h
        · rename_i size z e' hE hxt
          cases h
          intro s w hr v s' hs
          simp only [effD] at hs
          split at hs
          · cases hs
          · rename_i m hm
            simp only [fNat_eq] at hs
            split at hs
            · cases hs
            · rename_i xs hxs
              split at hs
              · rename_i hac
                obtain ⟨xs', q1, q2, q3, q4⟩ := firstD_run hr hxs hx ⟨m, hm, Nat.le_refl _⟩
                obtain ⟨β', v', w', q1, q2, q3⟩ := append_cells hr hst hE hcb ⟨_, hxt, .inr ⟨.inl ⟨_, rfl⟩, lenOf_run hm hx w, q3, q4⟩⟩ q1 q2 hac hs hc ho hat hvs
                exact ⟨β', v', w', q1, q2, by simpa using q3, fun hh => by cases hh⟩
              · cases hs
        · rename_i size z hE hxt
          cases h
          intro s w hr v s' hs
          simp only [effD] at hs
          split at hs
          · cases hs
          · rename_i m hm
            simp only [fNat_eq] at hs
            split at hs
            · cases hs
            · rename_i xs hxs
              split at hs
              · rename_i hac
                obtain ⟨xs', q1, q2, q3, q4⟩ := firstD_run hr hxs hx ⟨m, hm, Nat.le_refl _⟩
                obtain ⟨β', v', w', q1, q2, q3⟩ := append_cells hr hst hE hcb ⟨_, hxt, .inr ⟨.inr rfl, lenOf_run hm hx w, q3, q4⟩⟩ q1 q2 hac hs hc ho hat hvs
                exact ⟨β', v', w', q1, q2, by simpa using q3, fun hh => by cases hh⟩
              · cases hs
        · cases h
      · cases h
    · cases h
  · -- copy
    rename_i base dl cap x
    obtain ⟨cb, r, rfl, hcb, hr1⟩ := hlr.cons_inv
    obtain ⟨x', r, rfl, hx, hr1⟩ := hr1.cons_inv
    have := hr1.nil_inv
    subst this
    split at h
    · rename_i st xt hat
      have hat : c.argTypes = #[st, xt] := by apply Array.ext'; simpa using hat
      split at h
      · rename_i elem m hst hm
        split at h
        · rename_i size hsz
          simp only [fNat_eq, Option.some.injEq] at h
          obtain ⟨n, hmin, h⟩ : ∃ n, n = Nat.min m dl ∧ K.eff (.copy size base n x) false = k := by
            refine ⟨_, ?_, h⟩
            show _ = min m dl
            split
            · rename_i hle; have := Nat.le_of_ble_eq_true hle; omega
            · rename_i hle
              rcases Nat.lt_or_ge dl m with h | h
              · omega
              · rw [Nat.ble_eq_true_of_le h] at hle; cases hle
          subst hmin
          subst h
          have hmn : Nat.min m dl = min m dl := rfl
          intro s w hr v s' hs
          simp only [effD] at hs
          have step : ∀ (xs' : List Value) (w' : World), (Builtin.firstCells size (Nat.min m dl) x').run P w = .ok ⟨xs'⟩ w →
              CopyTo P w xs' w' cb →
              (execOp ev o).run P w = .ok (.value (goInt (Nat.min m dl))) w' := by
            intro xs' w' h1 h2
            rw [run_builtin ho hc, hvs, hat]
            cases hcb with
            | slice0 => have h2 : w' = w := h2; subst h2; simp [builtin, Builtin.copy_, run_ud hst, lenOf_run hm hx, run_sz hsz, h1]
            | slice => have h2 : (storeCells _ xs').run P w = .ok () w' := h2; simp [builtin, Builtin.copy_, run_ud hst, lenOf_run hm hx, run_sz hsz, h1, h2]
            | sliceU => have h2 : (storeCells _ xs').run P w = .ok () w' := h2; simp [builtin, Builtin.copy_, run_ud hst, lenOf_run hm hx, run_sz hsz, h1, h2]
            | sliceE =>
              have e0 : Nat.min m 0 = 0 := by rw [hmn]; omega
              rw [e0] at h1
              have h2 : (storeCells _ xs').run P w = .ok () w' := h2; simp [builtin, Builtin.copy_, run_ud hst, lenOf_run hm hx, run_sz hsz, h1, h2]
          split at hs
          · rename_i xs b off hxs
            obtain ⟨xs', q1, q2, q3, q4⟩ := firstD_run hr hxs hx ⟨m, hm, by omega⟩
            split at hs
            · rename_i hn0
              have hn0 : Nat.min m dl * size = 0 := Nat.eq_of_beq_eq_true hn0
              cases hs
              have : xs' = [] := by
                have := q1.len
                rw [q2, hn0] at this
                exact List.eq_nil_of_length_eq_zero this
              subst this
              refine ⟨β, goInt (Nat.min m dl), w, .refl hr, .int _ _, step [] w q3 ?_, fun hh => by cases hh⟩
              cases hcb <;> rfl
            · rename_i hn0
              split at hs
              · cases hs
              · rename_i s1 h1
                cases hs
                obtain ⟨z', cc, cc', e, lo, hi, r1, r2, r3, r4, r5⟩ := storeD_ext hr h1 q1
                refine ⟨β, goInt (Nat.min m dl), _, r4, .int _ _, step xs' _ q3 ?_, fun hh => by cases hh⟩
                cases hcb with
                | slice hb _ => rw [r1] at hb; cases hb; exact r5
                | sliceU hb _ _ => rw [r1] at hb; cases hb; exact r5
                | sliceE a hcc =>
                  exfalso
                  have : Nat.min m 0 = 0 := by rw [hmn] ; omega
                  rw [this] at hn0
                  simp at hn0
          · rename_i xs hxs
            split at hs
            · rename_i hn0
              cases hs
              obtain ⟨xs', q1, q2, q3, q4⟩ := firstD_run hr hxs hx ⟨m, hm, by omega⟩
              refine ⟨β, goInt (Nat.min m dl), w, .refl hr, .int _ _, step xs' w q3 ?_, fun hh => by cases hh⟩
              cases hcb; rfl
            · cases hs
          · cases hs
        · cases h
      · cases h
    · cases h
  · -- clear
    rename_i base n cap
    obtain ⟨cb, r, rfl, hcb, hr1⟩ := hlr.cons_inv
    have := hr1.nil_inv
    subst this
    split at h
    · rename_i st hat
      have hat : c.argTypes = #[st] := by apply Array.ext'; simpa using hat
      split at h
      · rename_i elem hst hroom
        split at h
        · rename_i size z hE
          obtain ⟨zv, i, t1, t2, t3, t4, t5, t6, t7, t8, t9, t10⟩ := elem_run (β := β) hE
          have hzz : ∀ m, Builtin.zeroCells zv.cells m = ⟨repZ z m⟩ := fun m => by rw [zeroCells_run _ t5, t4]
          have none_ : n = 0 → ∀ w : World, (execOp ev o).run P w = .ok (.value undefV) w := by
            intro hn w
            subst hn
            rw [run_builtin ho hc, hvs, hat]
            cases hcb <;> simp [builtin, Builtin.clear_, run_ud hst] <;> rfl
          split at h
          · split at h
            · rename_i hn
              have hn := Nat.eq_of_beq_eq_true hn
              cases h
              intro s w hr v s' hs
              simp only [effD, Option.some.injEq, Prod.mk.injEq] at hs
              obtain ⟨rfl, rfl⟩ := hs
              exact ⟨β, _, w, .refl hr, scalar_refl _ rfl, by simpa using none_ hn w, fun hh => by cases hh⟩
            · cases h
          · rename_i a
            cases h
            intro s w hr v s' hs
            simp only [effD] at hs
            split at hs
            · rename_i hnil
              have hn : n = 0 := by
                cases n with
                | zero => rfl
                | succ n =>
                  have := congrArg List.length hnil
                  simp [repZ, ← t6] at this
                  omega
              cases hs
              exact ⟨β, _, w, .refl hr, scalar_refl _ rfl, by simpa using none_ hn w, fun hh => by cases hh⟩
            · rename_i v0 vs0 b off hcons hbase
              cases hbase
              have hn : n ≠ 0 := by rintro rfl; simp [repZ] at hcons
              split at hs
              · cases hs
              · rename_i s1 h1
                cases hs
                obtain ⟨z', cc, cc', e, lo, hi, r1, r2, r3, r4, r5⟩ := storeD_ext hr h1 (repZ_rel t9 n)
                refine ⟨β, _, _, r4, scalar_refl _ rfl, ?_, fun hh => by cases hh⟩
                rw [run_builtin ho hc, hvs, hat]
                obtain ⟨n, rfl⟩ := Nat.exists_eq_succ_of_ne_zero hn
                cases hcb with
                | slice hb _ => rw [r1] at hb; cases hb; simp [builtin, Builtin.clear_, run_ud hst, t1, hzz, r5]; rfl
                | sliceU hb _ _ => rw [r1] at hb; cases hb; simp [builtin, Builtin.clear_, run_ud hst, t1, hzz, r5]; rfl
            · cases hs
        · cases h
      · cases h
    · cases h
  · -- delete
    rename_i r k'
    obtain ⟨m', l', rfl, hm, hr1⟩ := hlr.cons_inv
    obtain ⟨k'', l', rfl, hk, hr1⟩ := hr1.cons_inv
    have := hr1.nil_inv
    subst this
    split at h
    · rename_i t t2 hat
      have hat : c.argTypes = #[t, t2] := by apply Array.ext'; simpa using hat
      split at h
      · rename_i kk hkk
        cases h
        intro s w hr v s' hs
        cases r with
        | none =>
          simp only [effD] at hs
          split at hs
          · rename_i hh
            cases hs
            have := hk.scalar_eq (has_scalar hh)
            subst this
            cases hm
            obtain ⟨key, el, d, e1, e2, e3⟩ := kkMap_spec hkk
            refine ⟨β, _, w, .refl hr, scalar_refl _ rfl, ?_, fun hh => by cases hh⟩
            rw [run_builtin ho hc, hvs, hat]
            simp [builtin, Builtin.delete_, run_ud e1, checkKey_run e2 e3 hh]
            rfl
          · cases hs
        | some r =>
          simp only [effD] at hs
          split at hs
          · rename_i kk' es hb
            split at hs
            · rename_i h1 h2
              cases hs
              have := has_inj h1 h2
              subst this
              have := hk.scalar_eq (has_scalar h1)
              subst this
              obtain ⟨y, ces, clk, q1, q2, q3⟩ := hr.blk _ _ hb
              obtain ⟨y', hy, rfl⟩ := hm.map_inv
              rw [q1] at hy; cases hy
              obtain ⟨ces', clk', m1, m2⟩ := mdel_run (ats := #[t, t2]) (ty := o.type) rfl hkk q2 q3 h1
              refine ⟨β, undefV, _, map_ext (clk' := clk') hr hb q1 m1 q2, scalar_refl _ rfl, ?_, fun hh => by cases hh⟩
              rw [run_builtin ho hc, hvs, hat]
              simp only [builtin, Sem.run_bind, m2]
              rfl
            · cases hs
          · cases hs
      · cases h
    · cases h
  · -- recover
    cases h
    intro w
    rw [run_builtin ho hc]
    rfl
  · -- a string of bytes
    rename_i p kk n
    obtain ⟨x', r, rfl, hx, hr1⟩ := hlr.cons_inv
    obtain ⟨y', r, rfl, hy, hr1⟩ := hr1.cons_inv
    have := hr1.nil_inv
    subst this
    have := hy.int_inv
    subst this
    split at h
    · rename_i t t2 hat
      have hat : c.argTypes = #[t, t2] := by apply Array.ext'; simpa using hat
      split at h
      · rename_i e hu
        split at h
        · rename_i hu8 hsz
          simp only [fNat_eq] at h
          split at h
          · cases h; exact yl_builtin ho hc ha h0
          · rename_i i off hn0
            split at h
            · rename_i hroom
              have hroom := Nat.le_of_ble_eq_true hroom
              cases h
              intro s w hr v s' hs
              simp only [effD] at hs
              split at hs
              · rename_i c0 e0 anc fz hb
                split at hs
                · rename_i bs h1 h2 hbs
                  have h1 := Nat.eq_of_beq_eq_true h1
                  subst h1
                  have h2 : off + n ≤ c0.length := Nat.le_of_ble_eq_true h2
                  cases hs
                  obtain ⟨y, hy1, rfl⟩ := hx.ptr_inv
                  obtain ⟨x0, cc, lo, hi, q1, q2, q3, q4, q5, q6⟩ := cells_inv (hr.blk _ _ hb)
                  rw [hy1] at q1; cases q1
                  have hlr2 := q5.slc off n
                  rw [slc_slc _ _ _ _ _ h2] at hlr2
                  have hsame := bytesD_same hbs hlr2
                  have hlen : (slc c0 off n).length = n := by simp [slc]; omega
                  have hcell : ∀ k v, (slc c0 off n)[k]? = some v → cc[y.d + off + k]? = some v := by
                    intro k v hk
                    have hkn : k < n := by
                      rcases Nat.lt_or_ge k n with h | h
                      · exact h
                      · rw [List.getElem?_eq_none (by rw [hlen]; exact h)] at hk; cases hk
                    rw [← hsame] at hk
                    simp only [slc, List.getElem?_take, if_pos hkn, List.getElem?_drop, Array.getElem?_toList] at hk
                    exact hk
                  have hload := loadBytes_run (P := P) (w := w) _ bs y.b (y.d + off) .empty cc e0 (lo, hi) hbs q2 hcell
                  rw [hlen] at hload
                  have hfz : ∃ f', w.freeze ⟨y.b, y.d + off, none⟩ n = putB w y.b (.cells cc e0 f') := by
                    have hn' : n ≠ 0 := by rintro rfl; simp at hn0
                    refine ⟨if lo == hi then (y.d + off, y.d + off + n) else (min lo (y.d + off), max hi (y.d + off + n)), ?_⟩
                    simp only [World.freeze, if_neg hn', putB]
                    congr 1
                    apply Array.ext_getElem?
                    intro j
                    rw [Array.getElem?_modify]
                    by_cases hj : y.b = j
                    · subst hj
                      rw [if_pos rfl, q2, Array.getElem?_setIfInBounds_self_of_lt (lt_of_get q2)]
                      rfl
                    · rw [if_neg hj, Array.getElem?_setIfInBounds_ne hj]
                  obtain ⟨f', hfz⟩ := hfz
                  refine ⟨β, _, _, dead_ext (f' := f') hr hb hy1 q2, .string _, ?_, fun hh => by cases hh⟩
                  rw [run_builtin ho hc, hvs, hat]
                  have hn' : n ≠ 0 := by rintro rfl; simp at hn0
                  have hv := variablesAt_run (P := P) (n := n) (o := y.d + off) q2 hsz (by omega)
                  have a1 : ¬ ((n : Int) < 0) := by omega
                  have a2 : ¬ ((n : Int) > IntKind.i64.max) := by
                    unfold room at hroom
                    simp [IntKind.max, IntKind.signed, IntKind.bits]; omega
                  have a3 : ¬ ((n : Int) = 0) := by omega
                  have e0 : ∀ (k : IntKind) (n : Int) (w : World), (asInt (.int k n)).run P w = .ok n w := fun _ _ _ => rfl
                  simp only [builtin, Sem.run_bind]
                  rw [show Builtin.unsafeString_ #[t, t2] o.type #[.pointer (some ⟨y.b, y.d + off, none⟩), .int kk (Int.ofNat n)] = (asInt (.int kk (Int.ofNat n)) >>= _) from rfl]
                  simp only [Sem.run_bind, e0, Result.andThen_ok, Int.ofNat_eq_natCast]
                  simp [a1, a2, hn', elemOf, run_ud hu, hv, hload, hfz]
                · cases hs
              · cases hs
            · cases h
          · cases h
        · cases h
      · cases h
    · cases h
  · cases h

end
end Go.Dv
end
section
/- All operations. -/
namespace Go.Dv
section
variable {P : Program} {nC : Nat} {C : Nat → Option Blk} {β : Bm} {s : St} {w : World} {tr : Tr} {ev : Operand → Value} {o : Oper} {v : Value}

theorem forIn_bytes {f : Value → ByteArray → Sem (ForInStep ByteArray)} (hf : ∀ n s, f (.int .u8 (.ofNat n)) s = pure (.yield (s.push (UInt8.ofNat n)))) {vs : List Value} {bs : List UInt8}
    (h : bytesD vs = some bs) (acc : ByteArray) (w : World) : (ForIn.forIn (m := Sem) vs acc f).run P w = .ok ⟨⟨acc.data.toList ++ bs⟩⟩ w := by
  induction vs generalizing bs acc with
  | nil => simp only [bytesD, Option.some.injEq] at h; subst h; simp
  | cons v vs ih =>
    unfold bytesD at h
    split at h
    · rename_i hh; cases hh
    · rename_i n vs' heq
      cases heq
      split at h
      · rename_i bs' hbs
        cases h
        simp only [List.forIn_cons, Sem.run_bind, hf, Sem.run_pure, Result.andThen_ok]
        rw [ih hbs]
        congr 2
        apply Array.ext'
        simp [ByteArray.push]
      · cases h
    · cases h

theorem mark_new {cc : Array Value} {e : TypeId} : (markStringish ⟨w.heap.size, 0, none⟩).run P { w with heap := w.heap.push (.cells cc e) } =
    .ok () { w with heap := w.heap.push (.cells cc e (cc.size, cc.size + 1)) } := by
  have h1 : World.shape? { w with heap := w.heap.push (.cells cc e) } w.heap.size = some (e, cc.size) := by simp [World.shape?]
  simp only [markStringish, Sem.run_bind, run_shape, h1, Result.andThen_ok, run_freeze]
  congr 1
  simp only [World.freeze]
  rw [if_neg (by omega)]
  congr 1
  apply Array.ext_getElem?
  intro j
  rw [Array.getElem?_modify, Array.getElem?_push, Array.getElem?_push]
  by_cases hj : w.heap.size = j
  · subst hj; simp
  · rw [if_neg hj, if_neg (Ne.symm hj), if_neg (Ne.symm hj)]

theorem ok_convert {a b : TypeId} {x : Operand} {k : K} (ho : o.op = .convert a b x) (he : Evs P β tr ev [x]) (h : opK P tr o = some k) : KOk P nC C β ev o k := by
  have h0 := h
  simp only [opK, ho] at h
  have pur : (∃ v, k = .pure v) → KOk P nC C β ev o k := by
    rintro ⟨v, rfl⟩; exact yl_convert ho he h0
  split at h
  · split at h
    · exact pur (kV_isPure h)
    · exact pur (kV_isPure h)
  · rename_i base len cap hx
    split at h
    · rename_i e he' hs
      split at h
      · rename_i hu8
        split at h
        · cases h; exact pur ⟨_, rfl⟩
        · rename_i i off
          cases h
          intro s w hr v hv
          have hxe := he x (by simp) _ hx
          simp only [rdVal] at hv
          generalize hev : ev x = y at hxe
          have ex : ∀ {v' : Value}, (convert a b y).run P w = .ok v' w → (execOp ev o).run P w = .ok (.value v') w := fun h => exec_v (by first | (simp only [execOp, ho, hev]; done) | (simp only [execOp, ho, hev]; rfl)) h
          have run_ : ∀ (ad : Addr) (l c : Nat) (vs : List Value) (bs : List UInt8), y = .slice (some ad) l c → (loadCells ad l).run P w = .ok ⟨vs⟩ w → bytesD vs = some bs →
              (execOp ev o).run P w = .ok (.value (.string ⟨⟨bs⟩⟩)) w := by
            intro ad l c vs bs h1 h2 h3
            refine ex ?_
            rw [h1]
            simp only [convert, Sem.run_bind, run_ud he', run_ud hs, run_ud hu8, Result.andThen_ok, Conv.bytesToString, h2]
            simp only [List.forIn_toArray]
            rw [forIn_bytes (fun n s => rfl) h3]
            simp
          split at hv
          · rename_i hn
            have hn := Nat.eq_of_beq_eq_true hn
            subst hn
            cases hv
            refine ⟨_, .string _, ?_⟩
            cases hxe with
            | slice => exact run_ _ 0 _ [] [] rfl rfl rfl
            | sliceU => exact run_ _ 0 _ [] [] rfl rfl rfl
            | sliceE => exact run_ _ 0 _ [] [] rfl rfl rfl
          · rename_i hn
            split at hv
            · rename_i vs hl
              split at hv
              · rename_i bs hbs
                cases hv
                obtain ⟨y, vs', h1, h2, h3, h4⟩ := loadD_run hr hl
                have := bytesD_same hbs h2
                subst this
                refine ⟨_, .string _, ?_⟩
                cases hxe with
                | slice hb _ => rw [h1] at hb; cases hb; exact run_ _ len _ _ _ rfl h4 hbs
                | sliceU hb _ _ => rw [h1] at hb; cases hb; exact run_ _ len _ _ _ rfl h4 hbs
                | sliceE => simp at hn
              · cases hv
            · cases hv
        · cases h
      · cases h
    · cases h
  · rename_i b' hx
    split at h
    · cases h; exact pur ⟨_, rfl⟩
    · rename_i e he' hs
      split at h
      · rename_i hu8 hsz hroom
        have hroom := Nat.le_of_ble_eq_true hroom
        cases h
        intro s w hr v s' hv
        simp only [effD, fNat_eq, Option.some.injEq, Prod.mk.injEq] at hv
        obtain ⟨rfl, rfl⟩ := hv
        have hxe := (he x (by simp) _ hx).string_inv
        have hcap : b'.size ≤ (Question.appendCap b'.size 0 e).cut (w.tape w.drawn (.appendCap b'.size 0 e)) := by simp [Question.cut]
        have hnf : (Question.appendCap b'.size 0 e).forced = false := rfl
        have hch : (choose (.appendCap b'.size 0 e)).run P w = .ok ((Question.appendCap b'.size 0 e).cut (w.tape w.drawn (.appendCap b'.size 0 e))) w.drew := by simp [hnf]
        revert hcap hch
        generalize (Question.appendCap b'.size 0 e).cut (w.tape w.drawn (.appendCap b'.size 0 e)) = cap
        intro hcap hch
        have hcc : (b'.data.map fun b => Value.int .u8 b.toNat) = ⟨bytesV b'.data.toList⟩ := by apply Array.ext'; simp [bytesV]
        have hsz' : (Array.mk (bytesV b'.data.toList) ++ Array.replicate (cap - b'.size) (Value.int .u8 0)).size = cap := by
          have : b'.data.toList.length = b'.size := by rw [Array.length_toList]; rfl
          simp only [Array.size_append, Array.size_replicate, List.size_toArray, bytesV, List.length_map, this]
          omega
        have hrun : (execOp ev o).run P w = .ok (.value (.slice (some ⟨w.heap.size, 0, none⟩) b'.size cap))
            { w.drew with heap := w.heap.push (.cells (Array.mk (bytesV b'.data.toList) ++ Array.replicate (cap - b'.size) (.int .u8 0)) e (cap, cap + 1)) } := by
          refine exec_w (by first | (simp only [execOp, ho]; done) | (simp only [execOp, ho]; rfl)) ?_
          rw [hxe]
          simp only [convert, Sem.run_bind, run_ud he', run_ud hs, run_ud hu8, Result.andThen_ok, Conv.stringToBytes, hch, newRow, hcc]
          have hm := mark_new (P := P) (w := w.drew) (cc := Array.mk (bytesV b'.data.toList) ++ Array.replicate (cap - b'.size) (Value.int .u8 0)) (e := e)
          rw [hsz'] at hm
          simp only [run_newObj, Result.andThen_ok, Sem.run_pure]
          erw [hm]
          rfl
        have hn : NewB P β (.cells (bytesV b'.data.toList) e true none 0) (.cells (Array.mk (bytesV b'.data.toList) ++ Array.replicate (cap - b'.size) (.int .u8 0)) e (cap, cap + 1)) := by
          refine ⟨rfl, _, _, _, rfl, by simp, fun j v hv => ⟨v, ?_, ?_⟩, fun o h1 h2 => by omega⟩
          · have hj : j < (bytesV b'.data.toList).length := by
              rcases Nat.lt_or_ge j (bytesV b'.data.toList).length with h | h
              · exact h
              · rw [List.getElem?_eq_none h] at hv; cases hv
            rw [Array.getElem?_append_left (by simpa using hj)]
            simpa using hv
          · obtain ⟨v', q1, q2⟩ := (bytesV_rel (β := β) b'.data.toList).getElem hv
            rw [hv] at q1; cases q1; exact q2
        have hr' : Rel P nC C β s w.drew := hr.heap rfl
        have hx2 := push_ext hr' hn rfl
        refine ⟨_, _, _, hx2.heapL rfl rfl rfl rfl, ?_, hrun, fun hh => by cases hh⟩
        exact VRel.newU (addB_same _ _) rfl hcap (by simp only [obSize, hsz']; omega)
      · cases h
    · cases h
  · split at h
    · exact pur (kV_isPure h)
    · cases h
  · cases h

end
end Go.Dv
end
section
/- All operations, together. -/
namespace Go.Dv
section
variable {P : Program} {nC : Nat} {C : Nat → Option Blk} {β : Bm} {s : St} {w : World} {tr : Tr} {ev : Operand → Value} {o : Oper} {v : Value}

theorem func_run {f : FuncId} {a' b' args' : List Value} {c : Call} {g : Operand} (ho : o.op = .call c) (hc : c.callee = .value g) (hg : ev g = .func (.func f) ⟨a'⟩ ⟨b'⟩)
    (hvs : c.args.map ev = ⟨args'⟩) : (execOp ev o).run P w = (callFunc f ⟨a' ++ (args' ++ b')⟩).run P w := by
  simp only [execOp, ho, Sem.run_bind, resolve, hc, hg, Deferred.ofValue, Sem.run_pure, Result.andThen_ok, invoke, hvs]
  congr 2
  simp

theorem ok_call {c : Call} {k : K} (ho : o.op = .call c) (he : Evs P β tr ev o.op.operands.toList) (h : opK P tr o = some k) : KOk P nC C β ev o k := by
  have hargs : Evs P β tr ev c.args.toList := fun x hx => he x (by rw [ho]; cases hc : c.callee <;> simp [Op.operands, Call.operands, hc, Array.mem_toList_iff.1 hx])
  simp only [opK, ho] at h
  split at h
  · cases h
  · rename_i args ha
    have hlr := evalL_rel hargs ha
    obtain ⟨vs', hvs, hlr'⟩ := args_of hlr
    split at h
    · rename_i b hc
      exact ok_builtin ho hc hlr h
    · rename_i g hc
      have hgm : g ∈ o.op.operands.toList := by rw [ho]; simp [Op.operands, Call.operands, hc]
      split at h
      · rename_i f a b hg
        cases h
        obtain ⟨a', b', h1, h2, h3⟩ := (he g hgm _ hg).func_inv
        exact ⟨a' ++ (vs' ++ b'), h2.append (hlr'.append h3), fun w => func_run ho hc h1 hvs⟩
      · cases h
    · rename_i r name hc
      have hgm : r ∈ o.op.operands.toList := by rw [ho]; simp [Op.operands, Call.operands, hc]
      split at h
      · rename_i t v hv
        split at h
        · rename_i i hi
          split at h
          · rename_i m hm
            split at h
            · rename_i f fs hpe hf hu
              cases h
              obtain ⟨u, h1, h2⟩ := (he r hgm _ hv).iface_inv
              refine ⟨u :: vs', .cons h2 hlr', fun w => ?_⟩
              have hmeth : ∀ n, (method (n + 1) t u name).run P w = .ok (f, u) w := by
                intro n
                have hpl : m.path.toList = [] := by
                  have := Array.isEmpty_iff.1 hpe
                  rw [this]
                simp only [method, Sem.run_bind, typeInfo, run_program, Result.andThen_ok, hi, Sem.run_pure, hm, hpl, follow, hf, receiverAt, run_ud hu]
                simp [Place.get]
              simp only [execOp, ho, Sem.run_bind, resolve, hc, h1, Sem.run_pure, Result.andThen_ok, invoke, hvs]
              have hdep : ∃ n, P.types.size + Made.depth = n + 1 := ⟨P.types.size + 99, rfl⟩
              obtain ⟨n, hdep⟩ := hdep
              have hfst : (#[Value.iface t u] ++ (Array.mk vs'))[0]? = some (.iface t u) := by simp
              have hrest : (#[Value.iface t u] ++ (Array.mk vs')).extract 1 (#[Value.iface t u] ++ (Array.mk vs')).size = Array.mk vs' := by
                apply Array.ext'; simp
              simp only [hfst, hrest, callMethod, Sem.run_bind, run_program, Result.andThen_ok, hdep, hmeth]
              congr 2
              apply Array.ext'; simp
            · cases h
          · cases h
        · cases h
      · cases h

theorem ok_defer {c : Call} {k : K} (ho : o.op = .defer c) (he : Evs P β tr ev o.op.operands.toList) (h : opK P tr o = some k) : KOk P nC C β ev o k := by
  have hargs : Evs P β tr ev c.args.toList := fun x hx => he x (by rw [ho]; cases hc : c.callee <;> simp [Op.operands, Call.operands, hc, Array.mem_toList_iff.1 hx])
  simp only [opK, ho] at h
  split at h
  · rename_i args g ha hc
    have hlr := evalL_rel hargs ha
    obtain ⟨vs', hvs, hlr'⟩ := args_of hlr
    have hgm : g ∈ o.op.operands.toList := by rw [ho]; simp [Op.operands, Call.operands, hc]
    split at h
    · rename_i f a b hg
      cases h
      obtain ⟨a', b', h1, h2, h3⟩ := (he g hgm _ hg).func_inv
      refine ⟨{ target := .fn (.func f) ⟨b'⟩, args := ⟨a' ++ vs'⟩ }, ⟨b', a' ++ vs', rfl, rfl, ?_⟩, fun w => ?_⟩
      · rw [List.append_assoc]; exact h2.append (hlr'.append h3)
      · simp only [execOp, ho, Sem.run_bind, resolve, hc, h1, Deferred.ofValue, Sem.run_pure, Result.andThen_ok, hvs]
        simp
    · cases h
  · cases h

theorem ok_panic {x : Operand} {k : K} (ho : o.op = .panic x) (he : Evs P β tr ev [x]) (h : opK P tr o = some k) : KOk P nC C β ev o k := by
  simp only [opK, ho] at h
  split at h
  · rename_i t v hx
    cases h
    obtain ⟨u, h1, h2⟩ := (he x (by simp) _ hx).iface_inv
    refine ⟨.iface t u, .iface h2, fun w => ?_⟩
    simp only [execOp, ho, h1, Instr.panic, Sem.run_bind, goPanic]
    rfl
  · cases h

/- each operation comes to what opK says -/
theorem opK_ok {k : K} (he : Evs P β tr ev o.op.operands.toList) (h : opK P tr o = some k) : KOk P nC C β ev o k := by
  have h0 := h
  have pure_ : (∃ v, k = .pure v) → (∀ v, opK P tr o = some (.pure v) → Yl P β ev o v) → KOk P nC C β ev o k := by
    rintro ⟨v, rfl⟩ hh; exact hh v h0
  cases ho : o.op with
  | move x => exact pure_ (by simp only [opK, ho] at h; exact kV_isPure h) (fun v hv => yl_move (.inl ho) (by simpa [ho, Op.operands] using he) (kV_pure (by simpa only [opK, ho] using hv)))
  | assign x => exact pure_ (by simp only [opK, ho] at h; exact kV_isPure h) (fun v hv => yl_move (.inr ho) (by simpa [ho, Op.operands] using he) (kV_pure (by simpa only [opK, ho] using hv)))
  | pick c a b =>
    refine pure_ ?_ (fun v hv => yl_pick ho (by simpa [ho, Op.operands] using he) hv)
    simp only [opK, ho] at h
    repeat' split at h
    all_goals first | exact kV_isPure h | cases h
  | alloc t => exact ok_alloc ho h
  | box t x => exact ok_box ho (by simpa [ho, Op.operands] using he) h
  | build t parts =>
    refine pure_ ?_ (fun v hv => yl_build ho (by simpa [ho, Op.operands] using he) hv)
    simp only [opK, ho] at h
    repeat' split at h
    all_goals first | (cases h; done) | (cases h; exact ⟨_, rfl⟩)
  | buildSlice t len parts => exact ok_buildSlice ho (by simpa [ho, Op.operands] using he) h
  | load t x => exact ok_load ho (by simpa [ho, Op.operands] using he) h
  | store t x y => exact ok_store ho (by simpa [ho, Op.operands] using he) h
  | nilCheck x =>
    refine pure_ ?_ (fun v hv => yl_nilCheck ho (by simpa [ho, Op.operands] using he) hv)
    simp only [opK, ho] at h
    repeat' split at h
    all_goals first | (cases h; done) | (cases h; exact ⟨_, rfl⟩)
  | binOp op t x y t' =>
    refine pure_ ?_ (fun v hv => yl_binOp ho (by simpa [ho, Op.operands] using he) hv)
    simp only [opK, ho] at h
    repeat' split at h
    all_goals first | exact kV_isPure h | cases h
  | unOp op t x =>
    refine pure_ ?_ (fun v hv => yl_unOp ho (by simpa [ho, Op.operands] using he) hv)
    simp only [opK, ho] at h
    repeat' split at h
    all_goals first | exact kV_isPure h | cases h
  | convert a b x => exact ok_convert ho (by simpa [ho, Op.operands] using he) h
  | makeInterface t x =>
    refine pure_ ?_ (fun v hv => yl_makeInterface ho (by simpa [ho, Op.operands] using he) hv)
    simp only [opK, ho] at h
    repeat' split at h
    all_goals first | (cases h; done) | (cases h; exact ⟨_, rfl⟩)
  | makeFunc fn a b =>
    refine pure_ ?_ (fun v hv => yl_makeFunc ho (by simpa [ho, Op.operands] using he) hv)
    simp only [opK, ho] at h
    repeat' split at h
    all_goals first | (cases h; done) | (cases h; exact ⟨_, rfl⟩)
  | makeMap t r => exact ok_makeMap ho h
  | makeSlice t l c => exact ok_makeSlice ho (by simpa [ho, Op.operands] using he) h
  | slice t x lo hi mx =>
    refine pure_ ?_ (fun v hv => yl_slice ho (by simpa [ho, Op.operands] using he) hv)
    simp only [opK, ho, fNat_eq] at h
    repeat' split at h
    all_goals first | (cases h; done) | (cases h; exact ⟨_, rfl⟩)
  | fieldAddr t x f =>
    refine pure_ ?_ (fun v hv => yl_fieldAddr ho (by simpa [ho, Op.operands] using he) hv)
    simp only [opK, ho, fNat_eq] at h
    repeat' split at h
    all_goals first | (cases h; done) | (cases h; exact ⟨_, rfl⟩)
  | field t x f =>
    refine pure_ ?_ (fun v hv => yl_field ho (by simpa [ho, Op.operands] using he) hv)
    simp only [opK, ho] at h
    repeat' split at h
    all_goals first | exact kV_isPure h | (cases h; done) | (cases h; exact ⟨_, rfl⟩)
  | indexAddr t x ix =>
    refine pure_ ?_ (fun v hv => yl_indexAddr ho (by simpa [ho, Op.operands] using he) hv)
    simp only [opK, ho, fNat_eq] at h
    repeat' split at h
    all_goals first | (cases h; done) | (cases h; exact ⟨_, rfl⟩)
  | index t x ix =>
    refine pure_ ?_ (fun v hv => yl_index ho (by simpa [ho, Op.operands] using he) hv)
    simp only [opK, ho] at h
    repeat' split at h
    all_goals first | exact kV_isPure h | (cases h; done) | (cases h; exact ⟨_, rfl⟩)
  | lookup t x ix ok => exact ok_lookup ho (by simpa [ho, Op.operands] using he) h
  | mapUpdate t m key x => exact ok_mapUpdate ho (by simpa [ho, Op.operands] using he) h
  | insert t m key x => exact ok_insert ho (by simpa [ho, Op.operands] using he) h
  | typeAssert x s t ok =>
    refine pure_ ?_ (fun v hv => yl_typeAssert ho (by simpa [ho, Op.operands] using he) hv)
    simp only [opK, ho] at h
    repeat' split at h
    all_goals first | (cases h; done) | (cases h; exact ⟨_, rfl⟩)
  | extract x i =>
    refine pure_ ?_ (fun v hv => yl_extract ho (by simpa [ho, Op.operands] using he) hv)
    simp only [opK, ho] at h
    repeat' split at h
    all_goals first | exact kV_isPure h | cases h
  | call c => exact ok_call ho he h
  | defer c => exact ok_defer ho he h
  | panic x => exact ok_panic ho (by simpa [ho, Op.operands] using he) h
  | _ => simp only [opK, ho] at h; cases h

end
end Go.Dv
end
