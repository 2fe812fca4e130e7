import Derived.Test.YtibeagkgilmokaaGreatDoorDv2
import Derived.Recover
import Derived.ScopeJumps
import Derived.Orders
import Derived.Test.YtibeagkgilmokaaGreatDoorDv1
section
/- Code: what the evaluator says of it holds. -/
namespace Go.Dv

inductive DfR (β : Bm) : List (FuncId × List Value) → List Deferred → Prop
  | nil : DfR β [] []
  | cons {p : FuncId × List Value} {d : Deferred} {ps : List (FuncId × List Value)} {ds : List Deferred} (h : DefRel β p d) (t : DfR β ps ds) : DfR β (p :: ps) (d :: ds)

theorem DefRel.mono {β γ : Bm} {p : FuncId × List Value} {d : Deferred} (h : DefRel β p d) (hb : ∀ i x, β i = some x → γ i = some x) : DefRel γ p d := by
  obtain ⟨cap, cargs, h1, h2, h3⟩ := h
  exact ⟨cap, cargs, h1, h2, h3.mono hb⟩

theorem DfR.mono {β γ : Bm} {ps : List (FuncId × List Value)} {ds : List Deferred} (h : DfR β ps ds) (hb : ∀ i x, β i = some x → γ i = some x) : DfR γ ps ds := by
  induction h with
  | nil => exact .nil
  | cons h _ ih => exact .cons (h.mono hb) ih

structure TmR (β : Bm) (tr : Tr) (nt : Nat) (tmps : Array Value) : Prop where
  size : tmps.size = nt
  get : ∀ t v, tr.get t = some v → VRel β v (tmps.getD t undef)

structure AcR (β : Bm) (a : Ac) (act : Act) : Prop where
  tm : TmR β a.tr a.nt act.tmps
  df : DfR β a.df act.defers

theorem TmR.mono {β γ : Bm} {tr : Tr} {nt : Nat} {tmps : Array Value} (h : TmR β tr nt tmps) (hb : ∀ i x, β i = some x → γ i = some x) : TmR γ tr nt tmps :=
  ⟨h.size, fun t v hv => (h.get t v hv).mono hb⟩

theorem AcR.mono {β γ : Bm} {a : Ac} {act : Act} (h : AcR β a act) (hb : ∀ i x, β i = some x → γ i = some x) : AcR γ a act := ⟨h.tm.mono hb, h.df.mono hb⟩

theorem undef_rel (β : Bm) : VRel β undefV undef := scalar_refl undefV rfl

theorem TmR.set {β : Bm} {tr : Tr} {nt : Nat} {tmps : Array Value} (h : TmR β tr nt tmps) {d : Nat} (hd : d < nt) {x : Option Value} {v' : Value} (hv : ∀ v, x = some v → VRel β v v') :
    TmR β (tr.set d x) nt (tmps.setIfInBounds d v') := by
  refine ⟨by simp [h.size], fun t v ht => ?_⟩
  by_cases hdt : d = t
  · subst hdt
    have := hv v (Tr.get_set_some tr ht)
    have hs : d < tmps.size := by rw [h.size]; exact hd
    simpa [Array.getD_eq_getD_getElem?, Array.getElem?_setIfInBounds_self_of_lt hs] using this
  · rw [Tr.get_set_ne _ _ hdt] at ht
    have := h.get t v ht
    simpa [Array.getD_eq_getD_getElem?, Array.getElem?_setIfInBounds_ne hdt] using this

theorem putT_rel {β : Bm} {a a' : Ac} {act : Act} {d : Option Tmp} {x : Option Value} {v' : Value} (h : AcR β a act) (hp : putT a d x = some a') (hv : ∀ v, x = some v → VRel β v v') :
    AcR β a' (act.put d v') := by
  unfold putT at hp
  split at hp
  · cases hp; exact h
  · rename_i d
    split at hp
    · rename_i hlt
      cases hp
      exact ⟨h.tm.set (Nat.le_of_ble_eq_true hlt) hv, h.df⟩
    · cases hp

theorem evs_of {P : Program} {nC : Nat} {C : Nat → Option Blk} {β : Bm} {s : St} {w : World} {a : Ac} {act : Act} (hr : Rel P nC C β s w) (h : TmR β a.tr a.nt act.tmps) (xs : List Operand) :
    Evs P β a.tr act.eval xs := by
  intro x _ v hv
  cases x with
  | tmp t => exact h.get t v hv
  | const c =>
    simp only [evalO] at hv
    split at hv
    · rename_i hs; cases hv; exact scalar_refl _ hs
    · cases hv
  | global g =>
    simp only [evalO] at hv
    split at hv
    · rename_i hg
      cases hv
      obtain ⟨_, x, h1, h2, h3⟩ := hr.glob g (Nat.le_of_ble_eq_true hg)
      have := VRel.ptr (o := 0) h1
      rw [h2, h3] at this
      exact this
    · cases hv
  | func f =>
    simp only [evalO, Option.some.injEq] at hv
    subst hv
    exact .func rfl rfl (fun i v v' h => by simp at h) (fun i v v' h => by simp at h)

theorem guard_rel {β : Bm} {a : Ac} {act : Act} {ops : Array Oper} {o : Oper} {b : Bool} (h : TmR β a.tr a.nt act.tmps) (hg : guardD ops.toList a.tr o = some b) :
    Region.wanted o (yielded ops act.tmps) = b := by
  unfold guardD at hg
  unfold Region.wanted
  split at hg
  · rename_i h0; rw [h0]; simpa using hg
  · rename_i j want h0
    rw [h0]
    simp only
    unfold yielded
    rw [Array.getElem?_toList] at hg
    split at hg
    · rename_i p hp
      rw [hp]
      simp only [Option.bind_some]
      split at hg
      · rename_i d hd
        rw [hd]
        simp only [Option.bind_some]
        split at hg
        · rename_i b' hb'
          have := (h.get d _ hb').bool_inv
          rw [Array.getD_eq_getD_getElem?] at this
          cases hq : act.tmps[d]? with
          | none => rw [hq] at this; simp [undef] at this
          | some u =>
            rw [hq] at this
            simp only [Option.getD_some] at this
            subst this
            simp only [Option.some.injEq] at hg
            subst hg
            cases b' <;> cases want <;> rfl
        · rename_i u hnb hu
          simp only [Option.some.injEq] at hg
          subst hg
          have hv := h.get d _ hu
          rw [Array.getD_eq_getD_getElem?] at hv
          cases hq : act.tmps[d]? with
          | none => rfl
          | some u' =>
            rw [hq] at hv
            simp only [Option.getD_some] at hv
            cases hv <;> first | rfl | exact absurd rfl (hnb _)
        · cases hg
      · rename_i hd
        simp only [Option.some.injEq] at hg
        subst hg
        rw [hd]; rfl
    · rename_i hp
      simp only [Option.some.injEq] at hg
      subst hg
      rw [hp]; rfl

def ExR (β : Bm) : Ex → Exit → Prop
  | .normal, .normal => True
  | .exit i, .exit j => i = j
  | .goto i, .goto j => i = j
  | .ret, .ret => True
  | .panic v, .panic ch => ∃ v', ch = [{ v := v', recovered := false }] ∧ VRel β v v'
  | _, _ => False

def EnR (β : Bm) : En → Ending → Prop
  | .ret v, .returned v' => VRel β v v'
  | .panic v, .panicked ch => ∃ v', ch = [{ v := v', recovered := false }] ∧ VRel β v v'
  | _, _ => False

structure Good (E : Env) (C : Nat → Option Blk) : Prop where
  name : ∀ (f : FuncId) (fn : Func), E.P.funcs[f]? = some fn → fn.name ≠ "runtime.NumGoroutine"
  mixed : E.P.follows .mixedOrders = true
  sm : ∀ (f : FuncId) (g : List Value → St → Option (Value × St)) (args : List Value) (v : Value) (s s' : St) (β : Bm) (w : World) (cargs : List Value), E.sm f = some g → g args s = some (v, s') → Rel E.P E.nC C β s w → LR β args cargs →
    (∃ fn : Func, E.P.funcs[f]? = some fn ∧ fn.body.isSome = true) ∧ Calls E.P f ⟨cargs⟩ w fun e w' => ∃ β', Ext E.P E.nC C β s w β' s' w' ∧ EnR β' (.ret v) e
  xt : ∀ (f : FuncId) (g : List Value → Option Value) (args : List Value) (v : Value) (fn : Func), E.xt f = some g → g args = some v → E.P.funcs[f]? = some fn → fn.body = none → ∀ β s w cargs, Rel E.P E.nC C β s w → LR β args cargs →
    ∃ v', VRel β v v' ∧ (callFunc f ⟨cargs⟩).run E.P w = .ok (.value v') w

def CallOk (E : Env) (C : Nat → Option Blk) (f : FuncId) (args : List Value) (s : St) (en : En) (s' : St) : Prop :=
  ∀ β w cargs, Rel E.P E.nC C β s w → LR β args cargs →
    (∃ fn : Func, E.P.funcs[f]? = some fn ∧ fn.body.isSome = true ∧ Calls E.P f ⟨cargs⟩ w fun e w' => ∃ β', Ext E.P E.nC C β s w β' s' w' ∧ EnR β' en e) ∨
    (∃ v v', en = .ret v ∧ s' = s ∧ VRel β v v' ∧ (callFunc f ⟨cargs⟩).run E.P w = .ok (.value v') w)

def PostR (E : Env) (C : Nat → Option Blk) (β : Bm) (s : St) (w : World) (ex : Ex) (a' : Ac) (s' : St) (e : Exit) (act' : Act) (w' : World) : Prop :=
  ∃ β', Ext E.P E.nC C β s w β' s' w' ∧ ExR β' ex e ∧ AcR β' a' act'

theorem PostR.trans {E : Env} {C : Nat → Option Blk} {β β1 : Bm} {s s1 s' : St} {w w1 w' : World} {ex : Ex} {a' : Ac} {e : Exit} {act' : Act} (h : Ext E.P E.nC C β s w β1 s1 w1)
    (h' : PostR E C β1 s1 w1 ex a' s' e act' w') : PostR E C β s w ex a' s' e act' w' :=
  let ⟨β', q1, q2, q3⟩ := h'; ⟨β', h.trans q1, q2, q3⟩


theorem callFunc_enter {E : Env} {C : Nat → Option Blk} (G : Good E C) {f : FuncId} {fn : Func} (hf : E.P.funcs[f]? = some fn) (hb : fn.body.isSome = true) (args : Array Value) (w : World) :
    (callFunc f args).run E.P w = .ok (.enter f args) w := by
  have h1 := G.name f fn hf
  have h2 : fn.body.isNone = false := by simpa [Option.isNone_iff_eq_none, Option.isSome_iff_ne_none] using hb
  have h3 : ¬ fn.body = none := fun h => by rw [h] at hb; cases hb
  simp [callFunc, hf, h1, h3]

/- one operation that is no defer, recover, panic -/
theorem run_upon {E : Env} {C : Nat → Option Blk} (G : Good E C) {n : Nat} (hc : ∀ f args s en s', callD E n f args s = some (en, s') → CallOk E C f args s en s')
    {k : K} {s s' : St} {en : En} (h : runK E (n + 1) k s = some (en, s')) {β : Bm} {w : World} {act : Act} {o : Oper} (hr : Rel E.P E.nC C β s w) (hk : KOk E.P E.nC C β act.eval o k)
    {next : Act → World → Prop} {Q : Exit → Act → World → Prop}
    (hv : ∀ v, en = .ret v → ∀ β' v' w', Ext E.P E.nC C β s w β' s' w' → VRel β' v v' → next (act.put o.dst v') w')
    (hp : ∀ v, en = .panic v → ∀ β' v' w', Ext E.P E.nC C β s w β' s' w' → VRel β' v v' → Q (.panic [{ v := v', recovered := false }]) act w') :
    o.upon E.P act next Q ((execOp act.eval o).run E.P w) := by
  unfold runK at h
  split at h
  · -- pure
    cases h
    obtain ⟨v', h1, h2⟩ := hk w
    rw [h2]
    exact hv _ rfl β v' w (.refl hr) h1
  · -- read
    split at h
    · rename_i v hrd
      cases h
      obtain ⟨v', h1, h2⟩ := hk s w hr v hrd
      rw [h2]
      exact hv _ rfl β v' w (.refl hr) h1
    · cases h
  · -- alloc
    rename_i b m
    simp only [fNat_eq] at h
    cases h
    obtain ⟨h1, h2, h3⟩ := hk
    obtain ⟨ob, h4, h5⟩ := h3 w
    rw [h5]
    have hx := push_ext hr h4 h1
    exact hv _ rfl _ _ _ hx (h2 _ _ _ (addB_same _ _) rfl)
  · -- effect
    rename_i e sk
    split at h
    · rename_i v s1 he
      cases h
      obtain ⟨β', v', w', h1, h2, h3, h4⟩ := hk s w hr v s' he
      rw [h3]
      cases sk with
      | true => exact hv _ rfl β' _ w' h1 (by rw [h4 rfl]; exact undef_rel β')
      | false => exact hv _ rfl β' v' w' h1 h2
    · cases h
  · -- insert
    rename_i kk r k v
    split at h
    · rename_i v1 s1 he
      cases h
      obtain ⟨x, v', t, h1, h2, h3, h4⟩ := hk
      obtain ⟨q1, q2, w', q3, q4⟩ := mset_eff h3 h1 h2 hr he
      rw [h4 q1 w, q4]
      exact hv _ rfl β _ w' q3 (by rw [q2]; exact undef_rel β)
    · cases h
  · -- call
    rename_i f args
    obtain ⟨cargs, h1, h2⟩ := hk
    rw [h2]
    rcases hc _ _ _ _ _ h β w cargs hr h1 with ⟨fn, q1, q2, q3⟩ | ⟨v, v', rfl, rfl, q3, q4⟩
    · rw [callFunc_enter G q1 q2]
      refine Calls.mono q3 fun e w' he => ?_
      obtain ⟨β', r1, r2⟩ := he
      cases en with
      | ret v =>
        cases e with
        | returned v' => exact hv v rfl β' v' w' r1 r2
        | panicked ch => exact r2.elim
        | outgrown => exact r2.elim
      | panic v =>
        cases e with
        | returned v' => exact r2.elim
        | panicked ch =>
          obtain ⟨v', rfl, r3⟩ := r2
          exact hp v rfl β' v' w' r1 r3
        | outgrown => exact r2.elim
    · rw [q4]
      exact hv v rfl β v' w (.refl hr) q3
  · cases h

end Go.Dv
end
section
/- Calls: entering, results, deferred calls. -/
namespace Go.Dv

theorem argsTr_get : ∀ (args : List Value) (tr : Tr) (i t : Nat) (v : Value), (argsTr tr i args).get t = some v →
    (i ≤ t ∧ args[t - i]? = some v) ∨ ((t < i ∨ args.length ≤ t - i) ∧ tr.get t = some v) := by
  intro args
  induction args with
  | nil => intro tr i t v h; exact .inr ⟨by simp, h⟩
  | cons a as ih =>
    intro tr i t v h
    rcases ih _ _ _ _ h with ⟨h1, h2⟩ | ⟨h1, h2⟩
    · have h1 : i + 1 ≤ t := h1
      refine .inl ⟨by omega, ?_⟩
      rw [show t - i = (t - Nat.add i 1) + 1 by change t - i = (t - (i + 1)) + 1; omega]
      simpa using h2
    · by_cases hti : i = t
      · subst hti
        have := Tr.get_set_some tr h2
        cases this
        exact .inl ⟨Nat.le_refl _, by simp⟩
      · rw [Tr.get_set_ne _ _ hti] at h2
        refine .inr ⟨?_, h2⟩
        have h1 : t < i + 1 ∨ as.length ≤ t - (i + 1) := h1
        simp only [List.length_cons]
        omega

theorem entry_rel {β : Bm} {args cargs : List Value} {nt d : Nat} (h : LR β args cargs) (hn : args.length ≤ nt) :
    AcR β { tr := argsTr (Tr.mk d) 0 args, nt := nt, df := [] } { tmps := Array.mk cargs ++ Array.replicate (nt - (Array.mk cargs).size) undef, defers := [] } := by
  have hl := h.1
  refine ⟨⟨by simp; omega, fun t v ht => ?_⟩, .nil⟩
  rw [Array.getD_eq_getD_getElem?, Array.getElem?_append]
  rcases argsTr_get _ _ _ _ _ ht with ⟨_, h2⟩ | ⟨h1, h2⟩
  · rw [Nat.sub_zero] at h2
    obtain ⟨v', q1, q2⟩ := h.getElem h2
    have hlt : t < cargs.length := by
      rcases Nat.lt_or_ge t cargs.length with h | h
      · exact h
      · rw [List.getElem?_eq_none h] at q1; cases q1
    rw [if_pos (by simpa using hlt)]
    simp only [List.getElem?_toArray, q1, Option.getD_some]
    exact q2
  · have := Tr.get_mk _ _ _ h2
    subst this
    rw [if_neg (by simp; omega)]
    rw [Array.getElem?_replicate]
    split <;> exact undef_rel β

section
variable {P : Program} {nC : Nat} {C : Nat → Option Blk} {β : Bm} {s : St} {w : World}

theorem loadVar_run {t : TypeId} {d : TypeDesc} {i off n : Nat} {v : Value} {x : BI} (hr : Rel P nC C β s w) (hn : sizeD P t = some n) (hd : P.underlying t = some d) (hx : β i = some x)
    (h : (match isAggD (some d) with | true => rdVal s (.load i off n true) | false => rdVal s (.load i off 1 false)) = some v) :
    ∃ v', VRel β v v' ∧ (loadVar t ⟨x.b, x.d + off, none⟩).run P w = .ok v' w := by
  split at h
  · rename_i ha
    simp only [rdVal] at h
    split at h
    · rename_i vs hl
      cases h
      obtain ⟨z, vs', h1, h2, h3, h4⟩ := loadD_run hr hl
      rw [hx] at h1; cases h1
      refine ⟨.agg ⟨vs'⟩, .agg h2.1 h2.2, ?_⟩
      simp [loadVar, run_isAgg hd, ha, run_sz hn, h4]
    · cases h
  · rename_i ha
    simp only [rdVal] at h
    split at h
    · rename_i u hl
      cases h
      obtain ⟨z, vs', h1, h2, h3, h4⟩ := loadD_run hr hl
      rw [hx] at h1; cases h1
      obtain ⟨u', m, rfl, hu, hm⟩ := h2.cons_inv
      have := hm.nil_inv
      subst this
      refine ⟨u', hu, ?_⟩
      have h5 := load_one h4
      simp only [Sem.run_bind, Result.andThen_ok, loadVar, run_isAgg hd, ha, Bool.false_eq_true, if_false]
      exact h5
    · cases h

theorem resD_run {tr : Tr} {nt : Nat} {tmps : Array Value} (hr : Rel P nC C β s w) (ht : TmR β tr nt tmps) : ∀ (rs : List ResultVar) (vs : List Value), resD P tr s rs = some vs →
    ∃ vs', LR β vs vs' ∧ (rs.mapM (m := Sem) fun
      | .tmp t => pure (tmps.getD t undef)
      | .cell a t => do loadVar t (← asAddr (tmps.getD a undef))).run P w = .ok vs' w := by
  intro rs
  induction rs with
  | nil => intro vs h; simp only [resD, Option.some.injEq] at h; subst h; exact ⟨[], .nil, rfl⟩
  | cons r rs ih =>
    intro vs h
    unfold resD at h
    split at h
    · cases h
    · rename_i v hv
      split at h
      · cases h
      · rename_i vs1 h1
        cases h
        obtain ⟨vs', q1, q2⟩ := ih vs1 h1
        have hone : ∃ v', VRel β v v' ∧ (match r with
            | .tmp t => (pure (tmps.getD t undef) : Sem Value)
            | .cell a t => do loadVar t (← asAddr (tmps.getD a undef))).run P w = .ok v' w := by
          cases r with
          | tmp t => exact ⟨_, ht.get t v hv, rfl⟩
          | cell a t =>
            simp only at hv
            split at hv
            · rename_i i off ha
              split at hv
              · rename_i n d hn hd
                obtain ⟨x, hx, hxe⟩ := (ht.get a _ ha).ptr_inv
                obtain ⟨v', r1, r2⟩ := loadVar_run hr hn hd hx hv
                refine ⟨v', r1, ?_⟩
                simp only [hxe, Sem.run_bind]
                exact r2
              · cases hv
            · cases hv
        obtain ⟨v', r1, r2⟩ := hone
        refine ⟨v' :: vs', .cons r1 q1, ?_⟩
        rw [List.mapM_cons]
        simp only [Sem.run_bind]
        rw [r2]
        simp only [Result.andThen_ok]
        rw [q2]
        rfl

theorem tupD_rel {vs vs' : List Value} (h : LR β vs vs') : VRel β (tupD vs) (if hh : (Array.mk vs').size = 1 then (Array.mk vs')[0] else .tuple ⟨vs'⟩) := by
  have hl := h.len
  unfold tupD
  split
  · rename_i v
    obtain ⟨v', m, rfl, hv, hm⟩ := h.cons_inv
    have := hm.nil_inv
    subst this
    simpa using hv
  · rename_i hne
    rw [dif_neg]
    · exact .tuple h.1 h.2
    · intro h1
      simp only [List.size_toArray] at h1
      rw [hl] at h1
      obtain ⟨v, rfl⟩ := List.length_eq_one_iff.1 h1
      exact hne v rfl

theorem results_run {fn : Func} {tr : Tr} {nt : Nat} {tmps : Array Value} {vs : List Value} (hr : Rel P nC C β s w) (ht : TmR β tr nt tmps) (h : resD P tr s fn.results.toList = some vs) :
    ∃ v', VRel β (tupD vs) v' ∧ (results fn tmps).run P w = .ok v' w := by
  obtain ⟨vs', h1, h2⟩ := resD_run hr ht _ _ h
  refine ⟨_, tupD_rel h1, ?_⟩
  simp only [results, Sem.run_bind]
  rw [Array.mapM_eq_mapM_toList]
  simp only [Sem.run_map]
  erw [h2]
  rfl

end
end Go.Dv
end
section
/- The evaluator is sound. -/
namespace Go.Dv

inductive MdR (β : Bm) : Md → FrameMode → Prop
  | ret : MdR β .ret .returning
  | panic {v v' : Value} (h : VRel β v v') : MdR β (.panic v) (.panicking [{ v := v', recovered := false }])
  | done {v : Value} (v' : Value) : MdR β (.done v) (.panicking [{ v := v', recovered := true }])

theorem MdR.mono {β γ : Bm} {m : Md} {u : FrameMode} (h : MdR β m u) (hb : ∀ i x, β i = some x → γ i = some x) : MdR γ m u := by
  cases h with
  | ret => exact .ret
  | panic h => exact .panic (h.mono hb)
  | done v' => exact .done v'

/- a region that draws its order -/
def DrawOk (E : Env) (C : Nat → Option Blk) (n : Nat) : Prop :=
  ∀ id ops a s ex a' s', codeD E n (.region id ops true) a s = some (ex, a', s') → ∀ β w act, Rel E.P E.nC C β s w → AcR β a act →
    (Code.region id ops true).wp E.P (PostR E C β s w ex a' s') act w

def CodeOk (E : Env) (C : Nat → Option Blk) (n : Nat) : Prop :=
  ∀ c a s ex a' s', codeD E n c a s = some (ex, a', s') → ∀ β w act, Rel E.P E.nC C β s w → AcR β a act → c.wp E.P (PostR E C β s w ex a' s') act w

def ScopeOk (E : Env) (C : Nat → Option Blk) (n : Nat) : Prop :=
  ∀ b c a s ex a' s', scopeD E n b c a s = some (ex, a', s') → ∀ β w act, Rel E.P E.nC C β s w → AcR β a act →
    ∀ (bf : Frame) (k : List Item) (cs : List Frame), ∃ e act' w', PostR E C β s w ex a' s' e act' w' ∧ Arrives E.P (lone (bf.at act (.code c :: .inScope b :: k)) cs w) bf k cs e act' w'

def LoopOk (E : Env) (C : Nat → Option Blk) (n : Nat) : Prop :=
  ∀ b a s ex a' s', codeD E n (.loop b) a s = some (ex, a', s') → ∀ β w act, Rel E.P E.nC C β s w → AcR β a act →
    ∀ (bf : Frame) (k : List Item) (cs : List Frame), ∃ e act' w', PostR E C β s w ex a' s' e act' w' ∧ Arrives E.P (lone (bf.at act (.code b :: .inLoop b :: k)) cs w) bf k cs e act' w'

def OpsOk (E : Env) (C : Nat → Option Blk) (n : Nat) : Prop :=
  ∀ (ops : Array Oper) i a s ex a' s', opsD E n ops.toList (ops.toList.drop i) a s = some (ex, a', s') → ∀ β w act (Q : Exit → Act → World → Prop), Rel E.P E.nC C β s w → AcR β a act →
    (∀ e act' w', PostR E C β s w ex a' s' e act' w' → Q e act' w') → wpOps E.P ops Q (List.range' i (ops.size - i)) act w

def RunOk (E : Env) (C : Nat → Option Blk) (n : Nat) : Prop :=
  ∀ k s en s', runK E n k s = some (en, s') → ∀ β w act o, Rel E.P E.nC C β s w → KOk E.P E.nC C β act.eval o k → ∀ (next : Act → World → Prop) (Q : Exit → Act → World → Prop),
    (∀ v, en = .ret v → ∀ β' v' w', Ext E.P E.nC C β s w β' s' w' → VRel β' v v' → next (act.put o.dst v') w') →
    (∀ v, en = .panic v → ∀ β' v' w', Ext E.P E.nC C β s w β' s' w' → VRel β' v v' → Q (.panic [{ v := v', recovered := false }]) act w') →
    o.upon E.P act next Q ((execOp act.eval o).run E.P w)

def CallsOk (E : Env) (C : Nat → Option Blk) (n : Nat) : Prop :=
  ∀ f args s en s', callD E n f args s = some (en, s') → CallOk E C f args s en s'

def PostS (E : Env) (C : Nat → Option Blk) (β : Bm) (s : St) (w : World) (c₀ : Frame) (cs : List Frame) (ex : Ex) (a' : Ac) (s' : St) (m' : Md) (e : Exit) (act' : Act) (cs' : List Frame) (w' : World) : Prop :=
  ∃ β' u', Ext E.P E.nC C β s w β' s' w' ∧ ExR β' ex e ∧ AcR β' a' act' ∧ MdR β' m' u' ∧ cs' = { c₀ with mode := u' } :: cs

def OpsROk (E : Env) (C : Nat → Option Blk) (n : Nat) : Prop :=
  ∀ (ops : Array Oper) i a s m ex a' s' m', opsR E n ops.toList (ops.toList.drop i) a s m = some (ex, a', s', m') → ∀ β w act c₀ cs u (Q : Exit → Act → List Frame → World → Prop),
    Rel E.P E.nC C β s w → AcR β a act → MdR β m u → (∀ e act' cs' w', PostS E C β s w c₀ cs ex a' s' m' e act' cs' w' → Q e act' cs' w') →
    wpOpsS E.P ops Q (List.range' i (ops.size - i)) act ({ c₀ with mode := u } :: cs) w

def CodeROk (E : Env) (C : Nat → Option Blk) (n : Nat) : Prop :=
  ∀ c a s m ex a' s' m', codeR E n c a s m = some (ex, a', s', m') → ∀ β w act c₀ cs u, Rel E.P E.nC C β s w → AcR β a act → MdR β m u →
    c.wpS E.P (PostS E C β s w c₀ cs ex a' s' m') act ({ c₀ with mode := u } :: cs) w

def DefersOk (E : Env) (C : Nat → Option Blk) (n : Nat) : Prop :=
  ∀ ds m s m' s', defersD E n ds m s = some (m', s') → (∀ v, m ≠ .done v) → ∀ β w u dds fn tmps (R : Ending → World → Prop), Rel E.P E.nC C β s w → DfR β ds dds → MdR β m u →
    (∀ β' w', Ext E.P E.nC C β s w β' s' w' → (m' = .ret → ∃ v, (results fn tmps).run E.P w' = .ok v w' ∧ R (.returned v) w') ∧
      (∀ v, m' = .panic v → ∀ v', VRel β' v v' → R (.panicked [{ v := v', recovered := false }]) w')) →
    Leaves E.P fn tmps R dds u w

structure Sound (E : Env) (C : Nat → Option Blk) (n : Nat) : Prop where
  code : CodeOk E C n
  scope : ScopeOk E C n
  loop : LoopOk E C n
  ops : OpsOk E C n
  run : RunOk E C n
  calls : CallsOk E C n
  opsR : OpsROk E C n
  codeR : CodeROk E C n
  defers : DefersOk E C n

section
variable {E : Env} {C : Nat → Option Blk}

theorem sound_zero : Sound E C 0 where
  code := fun c a s ex a' s' h => by simp [codeD] at h
  scope := fun b c a s ex a' s' h => by simp [scopeD] at h
  loop := fun b a s ex a' s' h => by simp [codeD] at h
  ops := fun ops i a s ex a' s' h => by simp [opsD] at h
  run := fun k s en s' h => by simp [runK] at h
  calls := fun f args s en s' h => by simp [callD] at h
  opsR := fun ops i a s m ex a' s' m' h => by simp [Dv.opsR] at h
  codeR := fun c a s m ex a' s' m' h => by simp [Dv.codeR] at h
  defers := fun ds m s m' s' h => by simp [defersD] at h

theorem run_succ (G : Good E C) {n : Nat} (h : Sound E C n) : RunOk E C (n + 1) :=
  fun _k _s _en _s' hrun _β _w _act _o hr hk _next _Q hv hp => run_upon G h.calls hrun hr hk hv hp

theorem drop_cons {α : Type} {l : List α} {i : Nat} {x : α} {r : List α} (h : l.drop i = x :: r) : l[i]? = some x ∧ l.drop (i + 1) = r ∧ i < l.length := by
  have h1 : l[i]? = some x := by
    have := congrArg (fun q => q[0]?) h
    simpa using this
  refine ⟨h1, ?_, ?_⟩
  · have := congrArg (List.drop 1) h
    rw [List.drop_drop] at this
    simpa using this
  · rcases Nat.lt_or_ge i l.length with h2 | h2
    · exact h2
    · rw [List.getElem?_eq_none h2] at h1; cases h1

theorem ops_succ {n : Nat} (h : Sound E C n) : OpsOk E C (n + 1) := by
  intro ops i a s ex a' s' hd β w act Q hr ha hQ
  generalize hl : ops.toList.drop i = l at hd
  cases l with
  | nil =>
    simp only [opsD] at hd
    cases hd
    have hsz : ops.size - i = 0 := by
      have := congrArg List.length hl
      simpa using this
    rw [hsz]
    exact hQ .normal act w ⟨β, .refl hr, trivial, ha⟩
  | cons o rest =>
    simp only [opsD] at hd
    obtain ⟨h1, h2, h3⟩ := drop_cons hl
    have ho : ops[i]? = some o := by rw [← Array.getElem?_toList]; exact h1
    have hsz : ops.size - i = (ops.size - (i + 1)) + 1 := by
      have : i < ops.size := by simpa using h3
      omega
    rw [hsz, List.range'_succ]
    simp only [wpOps, ho]
    subst h2
    split at hd
    · cases hd
    · rename_i hg
      rw [guard_rel ha.tm hg, if_neg (by simp)]
      split at hd
      · cases hd
      · rename_i a1 hp
        exact h.ops ops (i + 1) _ _ _ _ _ hd β w _ Q hr (putT_rel ha hp (fun v hv => by cases hv; exact undef_rel β)) hQ
    · rename_i hg
      rw [guard_rel ha.tm hg, if_pos rfl]
      refine .inl ?_
      split at hd
      · cases hd
      · rename_i k hk
        have hok := opK_ok (nC := E.nC) (C := C) (evs_of (nC := E.nC) (C := C) hr ha.tm _) hk
        unfold Oper.wp
        split at hd
        · -- defer
          rename_i f args
          obtain ⟨d, hd1, hd2⟩ := hok
          rw [hd2]
          split at hd
          · cases hd
          · rename_i a1 hp
            have ha1 := putT_rel (v' := undef) ha hp (fun v hv => by cases hv; exact undef_rel β)
            have hdf : ({ act with defers := d :: act.defers } : Act).put o.dst undef = { act.put o.dst undef with defers := d :: act.defers } := by cases o.dst <;> rfl
            refine h.ops ops (i + 1) _ _ _ _ _ hd β w _ Q hr ?_ hQ
            rw [hdf]
            have hdd : a1.df = a.df := by
              unfold putT at hp
              split at hp
              · cases hp; rfl
              · split at hp
                · cases hp; rfl
                · cases hp
            exact ⟨ha1.tm, .cons hd1 (by rw [hdd]; exact ha.df)⟩
        · cases hd
        · -- panic
          cases hd
          obtain ⟨v', hv1, hv2⟩ := hok
          rw [hv2]
          exact hQ _ _ _ ⟨β, .refl hr, ⟨v', rfl, hv1⟩, ha⟩
        · split at hd
          · cases hd
          · rename_i v s1 hrun
            cases hd
            exact h.run _ _ _ _ hrun β w act o hr hok _ Q (fun v hv => by cases hv) (fun v' hv β' u w' hx hu => by
              cases hv
              exact hQ _ _ _ ⟨β', hx, ⟨u, rfl, hu⟩, ha.mono hx.mono⟩)
          · rename_i v s1 hrun
            split at hd
            · cases hd
            · rename_i a1 hp
              exact h.run _ _ _ _ hrun β w act o hr hok _ Q (fun v' hv β' u w' hx hu => by
                cases hv
                exact h.ops ops (i + 1) _ _ _ _ _ hd β' w' _ Q hx.rel (putT_rel (ha.mono hx.mono) hp (fun v hv => by cases hv; exact hu)) (fun e act' w'' hP => hQ _ _ _ (hP.trans hx)))
                (fun v' hv => by cases hv)

theorem loop_succ {n : Nat} (h : Sound E C n) : LoopOk E C (n + 1) := by
  intro b a s ex a' s' hd β w act hr ha bf k cs
  simp only [codeD] at hd
  split at hd
  · rename_i a1 s1 h1
    obtain ⟨e, act1, w1, ⟨β1, q1, q2, q3⟩, harr⟩ := h.code _ _ _ _ _ _ h1 β w act hr ha bf (.inLoop b :: k) cs
    cases e with
    | normal =>
      obtain ⟨e2, act2, w2, p2, harr2⟩ := h.loop _ _ _ _ _ _ hd β1 w1 act1 q1.rel q3 bf k cs
      exact ⟨e2, act2, w2, p2.trans q1, .of_steps (Steps.trans harr (.one step_inLoop)) harr2⟩
    | _ => exact q2.elim
  · rename_i hne
    obtain ⟨e, act1, w1, ⟨β1, q1, q2, q3⟩, harr⟩ := h.code _ _ _ _ _ _ hd β w act hr ha bf (.inLoop b :: k) cs
    refine ⟨e, act1, w1, ⟨β1, q1, q2, q3⟩, (.pass (x := .inLoop b) rfl (fun _ _ => .inl ?_) harr)⟩
    intro hh
    subst hh
    cases ex with
    | normal => exact hne _ _ hd
    | _ => exact q2.elim

theorem scope_succ {n : Nat} (h : Sound E C n) : ScopeOk E C (n + 1) := by
  intro b c a s ex a' s' hd β w act hr ha bf k cs
  simp only [scopeD] at hd
  split at hd
  · rename_i l a1 s1 h1
    obtain ⟨e, act1, w1, ⟨β1, q1, q2, q3⟩, harr⟩ := h.code _ _ _ _ _ _ h1 β w act hr ha bf (.inScope b :: k) cs
    cases e with
    | goto l' =>
      have : l = l' := q2
      subst this
      split at hd
      · rename_i rest hf
        have hg : gotoIn l (.inScope b :: k) = some (.code rest :: .inScope b :: k) := by simp [gotoIn, hf]
        obtain ⟨e2, act2, w2, p2, harr2⟩ := h.scope _ _ _ _ _ _ _ hd β1 w1 act1 q1.rel q3 bf k cs
        exact ⟨e2, act2, w2, p2.trans q1, .of_steps (harr _ hg) harr2⟩
      · rename_i hf
        cases hd
        exact ⟨.goto l, act1, w1, ⟨β1, q1, rfl, q3⟩, fun k' hk => harr k' (by simp [gotoIn, hf, hk])⟩
    | _ => exact q2.elim
  · rename_i hne
    obtain ⟨e, act1, w1, ⟨β1, q1, q2, q3⟩, harr⟩ := h.code _ _ _ _ _ _ hd β w act hr ha bf (.inScope b :: k) cs
    cases e with
    | normal => exact ⟨.normal, act1, w1, ⟨β1, q1, q2, q3⟩, Steps.trans harr (.one step_inScope)⟩
    | exit id => exact ⟨.exit id, act1, w1, ⟨β1, q1, q2, q3⟩, fun k' hk => harr k' (by simp [exitTo, hk])⟩
    | goto l' =>
      cases ex with
      | goto l => exact absurd hd (hne _ _ _)
      | _ => exact q2.elim
    | ret => exact ⟨_, act1, w1, ⟨β1, q1, q2, q3⟩, harr⟩
    | panic ch => exact ⟨_, act1, w1, ⟨β1, q1, q2, q3⟩, harr⟩
    | outgrown => cases ex <;> exact q2.elim

theorem code_succ {n : Nat} (hdraw : DrawOk E C (n + 1)) (h : Sound E C n) : CodeOk E C (n + 1) := by
  intro c a s ex a' s' hd β w act hr ha
  cases c with
  | skip => simp only [codeD, Option.some.injEq, Prod.mk.injEq] at hd; obtain ⟨rfl, rfl, rfl⟩ := hd; exact wp_skip ⟨β, .refl hr, trivial, ha⟩
  | label l => simp only [codeD, Option.some.injEq, Prod.mk.injEq] at hd; obtain ⟨rfl, rfl, rfl⟩ := hd; exact wp_label ⟨β, .refl hr, trivial, ha⟩
  | ret => simp only [codeD, Option.some.injEq, Prod.mk.injEq] at hd; obtain ⟨rfl, rfl, rfl⟩ := hd; exact wp_ret ⟨β, .refl hr, trivial, ha⟩
  | exit i => simp only [codeD, Option.some.injEq, Prod.mk.injEq] at hd; obtain ⟨rfl, rfl, rfl⟩ := hd; exact wp_exit ⟨β, .refl hr, rfl, ha⟩
  | goto i => simp only [codeD, Option.some.injEq, Prod.mk.injEq] at hd; obtain ⟨rfl, rfl, rfl⟩ := hd; exact wp_goto ⟨β, .refl hr, rfl, ha⟩
  | region id ops draw =>
    cases draw with
    | true => exact hdraw id ops a s ex a' s' hd β w act hr ha
    | false =>
      simp only [codeD] at hd
      have := h.ops ops 0 a s ex a' s' (by simpa using hd) β w act (PostR E C β s w ex a' s') hr ha (fun _ _ _ q => q)
      exact wp_region (by simpa [List.range_eq_range'] using this)
  | seq x y =>
    simp only [codeD] at hd
    split at hd
    · rename_i a1 s1 h1
      refine wp_seq (wp_mono (h.code _ _ _ _ _ _ h1 β w act hr ha) ?_)
      rintro e act1 w1 ⟨β1, q1, q2, q3⟩
      cases e with
      | normal => exact wp_mono (h.code _ _ _ _ _ _ hd β1 w1 act1 q1.rel q3) (fun _ _ _ q => q.trans q1)
      | _ => exact q2.elim
    · rename_i hne
      refine wp_seq (wp_mono (h.code _ _ _ _ _ _ hd β w act hr ha) ?_)
      rintro e act1 w1 ⟨β1, q1, q2, q3⟩
      cases e with
      | normal =>
        cases ex with
        | normal => exact absurd hd (hne _ _)
        | _ => exact q2.elim
      | _ => exact ⟨β1, q1, q2, q3⟩
  | cond b x y =>
    simp only [codeD] at hd
    have hev := evs_of (nC := E.nC) (C := C) hr ha.tm [b]
    split at hd
    · rename_i hb
      have := (hev b (by simp) _ hb).bool_inv
      exact wp_cond_true this (h.code _ _ _ _ _ _ hd β w act hr ha)
    · rename_i hb
      have := (hev b (by simp) _ hb).bool_inv
      exact wp_cond_false this (h.code _ _ _ _ _ _ hd β w act hr ha)
    · cases hd
  | block id b =>
    simp only [codeD] at hd
    split at hd
    · rename_i i a1 s1 h1
      refine wp_block (wp_mono (h.code _ _ _ _ _ _ h1 β w act hr ha) ?_)
      rintro e act1 w1 ⟨β1, q1, q2, q3⟩
      cases e with
      | exit j =>
        have : i = j := q2
        subst this
        simp only [Exit.inBlock]
        split at hd
        · rename_i hid
          cases hd
          rw [if_pos (Nat.eq_of_beq_eq_true hid)]
          exact ⟨β1, q1, trivial, q3⟩
        · rename_i hid
          cases hd
          rw [if_neg (fun hh => by rw [hh] at hid; simp at hid)]
          exact ⟨β1, q1, rfl, q3⟩
      | _ => exact q2.elim
    · rename_i hne
      refine wp_block (wp_mono (h.code _ _ _ _ _ _ hd β w act hr ha) ?_)
      rintro e act1 w1 ⟨β1, q1, q2, q3⟩
      cases e with
      | exit j =>
        cases ex with
        | exit i => exact absurd hd (hne _ _ _)
        | _ => exact q2.elim
      | _ => exact ⟨β1, q1, q2, q3⟩
  | loop b =>
    intro bf k cs
    obtain ⟨e, act1, w1, p1, harr⟩ := loop_succ h b a s ex a' s' hd β w act hr ha bf k cs
    exact ⟨e, act1, w1, p1, .of_steps (.one step_loop) harr⟩
  | scope b =>
    simp only [codeD] at hd
    intro bf k cs
    obtain ⟨e, act1, w1, p1, harr⟩ := h.scope _ _ _ _ _ _ _ hd β w act hr ha bf k cs
    exact ⟨e, act1, w1, p1, .of_steps (.one step_scope) harr⟩
  | _ => simp only [codeD] at hd; cases hd

end
end Go.Dv
end
section
/- The evaluator is sound: calls, deferred calls. -/
namespace Go.Dv
section
variable {E : Env} {C : Nat → Option Blk}

theorem mode_same (c : Frame) : ({ c with mode := c.mode } : Frame) = c := rfl

theorem opsR_succ {n : Nat} (h : Sound E C n) : OpsROk E C (n + 1) := by
  intro ops i a s m ex a' s' m' hd β w act c₀ cs u Q hr ha hm hQ
  generalize hl : ops.toList.drop i = l at hd
  cases l with
  | nil =>
    simp only [opsR] at hd
    cases hd
    have hsz : ops.size - i = 0 := by
      have := congrArg List.length hl
      simpa using this
    rw [hsz]
    exact hQ .normal act _ w ⟨β, u, .refl hr, trivial, ha, hm, rfl⟩
  | cons o rest =>
    simp only [opsR] at hd
    obtain ⟨h1, h2, h3⟩ := drop_cons hl
    have ho : ops[i]? = some o := by rw [← Array.getElem?_toList]; exact h1
    have hsz : ops.size - i = (ops.size - (i + 1)) + 1 := by
      have : i < ops.size := by simpa using h3
      omega
    rw [hsz, List.range'_succ]
    simp only [wpOpsS, ho]
    subst h2
    split at hd
    · cases hd
    · rename_i hg
      rw [guard_rel ha.tm hg, if_neg (by simp)]
      split at hd
      · cases hd
      · rename_i a1 hp
        exact h.opsR ops (i + 1) _ _ _ _ _ _ _ hd β w _ c₀ cs u Q hr (putT_rel ha hp (fun v hv => by cases hv; exact undef_rel β)) hm hQ
    · rename_i hg
      rw [guard_rel ha.tm hg, if_pos rfl]
      split at hd
      · cases hd
      · rename_i k hk
        have hok := opK_ok (nC := E.nC) (C := C) (evs_of (nC := E.nC) (C := C) hr ha.tm _) hk
        split at hd
        · -- recover
          rw [hok w]
          simp only
          split at hd
          · rename_i v
            cases hm with
            | panic hv =>
              rename_i v'
              have hrec : recoverD (({ c₀ with mode := .panicking [{ v := v', recovered := false }] } : Frame) :: cs) =
                  some (v', { c₀ with mode := .panicking [{ v := v', recovered := true }] } :: cs) := rfl
              rw [hrec]
              simp only
              split at hd
              · cases hd
              · rename_i a1 hp
                exact h.opsR ops (i + 1) _ _ _ _ _ _ _ hd β w _ c₀ cs _ Q hr (putT_rel ha hp (fun v hv => by cases hv; assumption)) (.done v') hQ
          · rename_i hne
            have hrec : recoverD (({ c₀ with mode := u } : Frame) :: cs) = none := by
              cases hm with
              | ret => rfl
              | panic hv => exact absurd rfl (hne _)
              | done v' => rfl
            rw [hrec]
            simp only
            split at hd
            · cases hd
            · rename_i a1 hp
              exact h.opsR ops (i + 1) _ _ _ _ _ _ _ hd β w _ c₀ cs _ Q hr (putT_rel ha hp (fun v hv => by cases hv; exact .nilIface)) hm hQ
        · cases hd
        · split at hd
          · rename_i v s1 hrun
            split at hd
            · cases hd
            · rename_i a1 hp
              have key := h.run _ _ _ _ hrun β w act o hr hok (fun a' w' => wpOpsS E.P ops Q (List.range' (i + 1) (ops.size - (i + 1))) a' ({ c₀ with mode := u } :: cs) w')
                (fun e a' w' => Q e a' ({ c₀ with mode := u } :: cs) w') (fun v' hv β' u1 w' hx hu => by
                cases hv
                exact h.opsR ops (i + 1) _ _ _ _ _ _ _ hd β' w' _ c₀ cs _ Q hx.rel (putT_rel (ha.mono hx.mono) hp (fun v hv => by cases hv; exact hu)) (hm.mono hx.mono)
                  (fun e act' cs' w'' ⟨β2, u2, p1, p2, p3, p4, p5⟩ => hQ _ _ _ _ ⟨β2, u2, hx.trans p1, p2, p3, p4, p5⟩))
                (fun v' hv => by cases hv)
              split
              · rename_i w' hrec
                rw [hrec] at key
                exact key.elim
              · exact key
          · cases hd

theorem codeR_succ {n : Nat} (h : Sound E C n) : CodeROk E C (n + 1) := by
  intro c a s m ex a' s' m' hd β w act c₀ cs u hr ha hm
  have plain : ∀ {e : Ex} {a1 : Ac} {s1 : St}, codeD E n c a s = some (e, a1, s1) → (∀ v, e ≠ .panic v) → ex = e ∧ a' = a1 ∧ s' = s1 ∧ m' = m →
      c.wpS E.P (PostS E C β s w c₀ cs ex a' s' m') act ({ c₀ with mode := u } :: cs) w := by
    rintro e a1 s1 h1 hne ⟨rfl, rfl, rfl, rfl⟩
    refine wpS_of_wp (wp_mono (h.code _ _ _ _ _ _ h1 β w act hr ha) ?_)
    rintro e act1 w1 ⟨β1, q1, q2, q3⟩
    exact ⟨β1, u, q1, q2, q3, hm.mono q1.mono, rfl⟩
  unfold codeR at hd
  split at hd
  · rename_i x y
    split at hd
    · rename_i a1 s1 m1 h1
      have hx := h.codeR _ _ _ _ _ _ _ _ h1 β w act c₀ cs u hr ha hm
      refine wpS_seq fun bf k hb hr0 => ?_
      obtain ⟨e, act1, cs1, w1, ⟨β1, u1, p1, p2, p3, p4, rfl⟩, harr⟩ := hx bf k hb hr0
      cases e with
      | normal =>
        refine ⟨.normal, act1, _, w1, ?_, harr⟩
        intro bf2 k2 hb2 hr2
        obtain ⟨e2, act2, cs2, w2, ⟨β2, u2, r1, r2, r3, r4, rfl⟩, harr2⟩ := h.codeR _ _ _ _ _ _ _ _ hd β1 w1 act1 c₀ cs u1 p1.rel p3 p4 bf2 k2 hb2 hr2
        exact ⟨e2, act2, _, w2, ⟨β2, u2, p1.trans r1, r2, r3, r4, rfl⟩, harr2⟩
      | _ => exact p2.elim
    · rename_i hne
      have hx := h.codeR _ _ _ _ _ _ _ _ hd β w act c₀ cs u hr ha hm
      refine wpS_seq fun bf k hb hr0 => ?_
      obtain ⟨e, act1, cs1, w1, ⟨β1, u1, p1, p2, p3, p4, rfl⟩, harr⟩ := hx bf k hb hr0
      cases e with
      | normal =>
        cases ex with
        | normal => exact absurd hd (hne _ _ _)
        | _ => exact p2.elim
      | exit id => exact ⟨.exit id, act1, _, w1, ⟨β1, u1, p1, p2, p3, p4, rfl⟩, harr⟩
      | goto l => exact ⟨.goto l, act1, _, w1, ⟨β1, u1, p1, p2, p3, p4, rfl⟩, harr⟩
      | ret => exact ⟨.ret, act1, _, w1, ⟨β1, u1, p1, p2, p3, p4, rfl⟩, harr⟩
      | panic ch => exact ⟨.panic ch, act1, _, w1, ⟨β1, u1, p1, p2, p3, p4, rfl⟩, harr⟩
      | outgrown => exact ⟨.outgrown, act1, _, w1, ⟨β1, u1, p1, p2, p3, p4, rfl⟩, harr⟩
  · rename_i id ops
    have := h.opsR ops 0 a s m ex a' s' m' (by simpa using hd) β w act c₀ cs u (PostS E C β s w c₀ cs ex a' s' m') hr ha hm (fun _ _ _ _ q => q)
    exact wpS_region (by simpa [List.range_eq_range'] using this)
  · split at hd
    · cases hd
    · rename_i e a1 s1 hne h1
      simp only [Option.some.injEq, Prod.mk.injEq] at hd
      obtain ⟨rfl, rfl, rfl, rfl⟩ := hd
      exact plain h1 (fun v hv => hne v (by rw [hv])) ⟨rfl, rfl, rfl, rfl⟩
    · cases hd

theorem runMode_ne {β : Bm} {m : Md} {u : FrameMode} (h : MdR β m u) : u ≠ .run := by cases h <;> simp

theorem defers_succ (G : Good E C) {n : Nat} (h : Sound E C n) : DefersOk E C (n + 1) := by
  intro ds m s m' s' hd hnd β w u dds fn tmps R hr hds hm hfin
  cases hds with
  | nil =>
    simp only [defersD] at hd
    cases hd
    obtain ⟨f1, f2⟩ := hfin β w (.refl hr)
    cases hm with
    | ret => exact f1 rfl
    | panic hv => exact f2 _ rfl _ hv
    | done v' => exact absurd rfl (hnd _)
  | cons h1 ht =>
    rename_i p d ps ds
    obtain ⟨f, args⟩ := p
    simp only [defersD] at hd
    split at hd
    · cases hd
    · rename_i fn1 hf
      split at hd
      · cases hd
      · rename_i c hb
        split at hd
        · rename_i ex a1 s1 m1 hc
          split at hd
          · rename_i vs hdf hle hres
            have hle := Nat.le_of_ble_eq_true hle
            obtain ⟨cap, cargs, hd1, hd2, hd3⟩ := h1
            obtain ⟨tgt, dargs⟩ := d
            simp only at hd1 hd2
            subst hd1
            subst hd2
            have hinv : (invoke (.fn (.func f) ⟨cap⟩) ⟨cargs⟩).run E.P w = .ok (.enter f ⟨cargs ++ cap⟩) w := by
              have := callFunc_enter G hf (by rw [hb]; rfl) (Array.mk cargs ++ Array.mk cap) w
              simpa [invoke] using this
            refine leaves_cons (runMode_ne hm) hinv ?_
            refine callsD_of_wpS hf hb fun c₀ cs hmode => ?_
            have hent := entry_rel (d := log2D 20 fn1.ntmps) (nt := fn1.ntmps) hd3 hle
            have hcode := h.codeR _ _ _ _ _ _ _ _ hc β w _ c₀ cs u hr hent hm
            have hcs : ({ c₀ with mode := u } : Frame) = c₀ := by rw [← hmode]
            rw [hcs] at hcode
            intro bf k hbk hbr
            obtain ⟨e, act1, cs1, w1, ⟨β1, u1, p1, p2, p3, p4, rfl⟩, harr⟩ := hcode bf k hbk hbr
            have hdef : act1.defers = [] := by
              have := p3.df
              rw [hdf] at this
              generalize act1.defers = q at this ⊢
              cases this; rfl
            obtain ⟨rv, rr1, rr2⟩ := results_run p1.rel p3.tm hres
            have hset : MdR β1 m1.next (settle u1) := by
              cases p4 with
              | ret => exact .ret
              | panic hv => exact .panic hv
              | done v' => exact .ret
            have hnd1 : ∀ v, m1.next ≠ .done v := by
              intro v hh
              cases m1 <;> simp [Md.next] at hh
            have hrest : ∀ ex', ex = ex' → (ex' = .normal ∨ ex' = .ret) → Leaves E.P fn tmps R ds (settle u1) w1 := by
              rintro ex' rfl hor
              have hd' : defersD E n ps m1.next s1 = some (m', s') := by
                rcases hor with rfl | rfl
                · exact hd
                · exact hd
              exact h.defers _ _ _ _ _ hd' hnd1 β1 w1 _ ds fn tmps R p1.rel (ht.mono p1.mono) hset (fun β' w' hx => hfin β' w' (p1.trans hx))
            cases ex with
            | normal =>
              cases e with
              | normal => exact ⟨.normal, act1, _, w1, ⟨hdef, u1, rfl, rv, rr2, hrest _ rfl (.inl rfl)⟩, harr⟩
              | _ => exact p2.elim
            | ret =>
              cases e with
              | ret => exact ⟨.ret, act1, _, w1, ⟨hdef, u1, rfl, rv, rr2, hrest _ rfl (.inr rfl)⟩, harr⟩
              | _ => exact p2.elim
            | _ => simp at hd
          · cases hd
        · cases hd

theorem calls_succ (G : Good E C) {n : Nat} (h : Sound E C n) : CallsOk E C (n + 1) := by
  intro f args s en s' hd β w cargs hr hl
  simp only [callD] at hd
  split at hd
  · -- a summary
    rename_i v s1 hs
    cases hd
    unfold sumD at hs
    split at hs
    · cases hs
    · rename_i g hg
      split at hs
      · cases hs
      · rename_i r hgv
        simp only [Option.some.injEq] at hs
        subst hs
        obtain ⟨⟨fn, q1, q2⟩, q3⟩ := G.sm f g args _ s _ β w cargs hg hgv hr hl
        exact .inl ⟨fn, q1, q2, q3⟩
  · split at hd
    · cases hd
    · rename_i fn hf
      split at hd
      · rename_i hb
        split at hd
        · rename_i g hg
          split at hd
          · rename_i v hv
            cases hd
            obtain ⟨v', q1, q2⟩ := G.xt f g args v fn hg hv hf hb β s w cargs hr hl
            exact .inr ⟨v, v', rfl, rfl, q1, q2⟩
          · cases hd
        · cases hd
      · rename_i c hb
        split at hd
        · cases hd
        · rename_i hle
          have hle := Nat.le_of_ble_eq_true hle
          split at hd
          · cases hd
          · rename_i ex a1 s1 hc
            refine .inl ⟨fn, hf, by rw [hb]; rfl, ?_⟩
            refine calls_of_wp_defers hf hb ?_
            have hent := entry_rel (d := log2D 20 fn.ntmps) (nt := fn.ntmps) hl hle
            refine wp_mono (h.code _ _ _ _ _ _ hc β w _ hr hent) ?_
            rintro e act1 w1 ⟨β1, p1, p2, p3⟩
            have fin : ∀ (m : Md) (u : FrameMode), (∀ v, m ≠ .done v) → MdR β1 m u →
                (match defersD E n a1.df m s1 with
                  | some (.ret, s) => match resD E.P a1.tr s fn.results.toList with
                    | some vs => some (En.ret (tupD vs), s)
                    | none => none
                  | some (.panic v, s) => some (En.panic v, s)
                  | _ => none) = some (en, s') →
                Leaves E.P fn act1.tmps (fun e w' => ∃ β', Ext E.P E.nC C β s w β' s' w' ∧ EnR β' en e) act1.defers u w1 := by
              intro m u hnd hm hq
              split at hq
              · rename_i s2 hds
                split at hq
                · rename_i vs hres
                  cases hq
                  refine h.defers _ _ _ _ _ hds hnd β1 w1 u _ _ _ _ p1.rel p3.df hm (fun β' w' hx => ⟨fun _ => ?_, fun v hv => by cases hv⟩)
                  obtain ⟨rv, rr1, rr2⟩ := results_run hx.rel (p3.tm.mono hx.mono) hres
                  exact ⟨rv, rr2, β', p1.trans hx, rr1⟩
                · cases hq
              · rename_i v s2 hds
                cases hq
                refine h.defers _ _ _ _ _ hds hnd β1 w1 u _ _ _ _ p1.rel p3.df hm (fun β' w' hx => ⟨fun hh => (by cases hh), fun v2 hv v' hr2 => ?_⟩)
                cases hv
                exact ⟨β', p1.trans hx, v', rfl, hr2⟩
              · cases hq
            cases ex with
            | normal =>
              cases e with
              | normal => exact fin .ret .returning (fun v hh => by cases hh) .ret hd
              | _ => exact p2.elim
            | ret =>
              cases e with
              | ret => exact fin .ret .returning (fun v hh => by cases hh) .ret hd
              | _ => exact p2.elim
            | panic v =>
              cases e with
              | panic ch =>
                obtain ⟨v', rfl, q2⟩ := p2
                exact fin (.panic v) _ (fun v hh => by cases hh) (.panic q2) hd
              | _ => exact p2.elim
            | exit i => simp at hd
            | goto l => simp at hd

theorem sound_all (G : Good E C) (hdraw : ∀ n, (∀ m, m ≤ n → Sound E C m) → DrawOk E C (n + 1)) : ∀ n m, m ≤ n → Sound E C m := by
  intro n
  induction n with
  | zero => intro m hm; rw [Nat.le_zero.1 hm]; exact sound_zero
  | succ n ih =>
    intro m hm
    rcases Nat.lt_or_ge m (n + 1) with hlt | hge
    · exact ih m (by omega)
    · have : m = n + 1 := by omega
      subst this
      have h := ih n (Nat.le_refl _)
      exact
        { code := code_succ (hdraw n ih) h, scope := scope_succ h, loop := loop_succ h, ops := ops_succ h, run := run_succ G h, calls := calls_succ G h
          opsR := opsR_succ h, codeR := codeR_succ h, defers := defers_succ G h }

end
end Go.Dv
end
section
/- Blocks that are reserved, and filled later. -/
namespace Go.Dv
section
variable {P : Program} {nC : Nat} {C : Nat → Option Blk} {β : Bm} {s : St} {w : World}

/- a block is filled -/
theorem fill_rel_one {id : Nat} {b : Blk} {x : BI} (hr : Rel P nC C β s w) (hh : s.blk id = some .hole) (hx : β id = some x) (hB : BRel P β w id b) (hnC : nC ≤ id) (hanc : b.anc = none)
    (hd : ∀ i bi y, s.blk i = some bi → bi.own = true → β i = some y → y.b ≠ x.b) : Rel P nC C β (s.put id b) w := by
  have nb : ∀ j, (s.put id b).blk j = if id = j then some b else s.blk j := fun j => St.blk_put _ _ _ _
  have same : ∀ j, j ≠ id → (s.put id b).blk j = s.blk j := fun j h => by rw [nb, if_neg (Ne.symm h)]
  have self : (s.put id b).blk id = some b := by rw [nb, if_pos rfl]
  have lo : ∀ b : Blk, b.live = true → b.own = true := by
    intro b h
    cases b with
    | cells c e l a f => simp only [Blk.live] at h; simp [Blk.own, h]
    | map => rfl
    | hole => cases h
  exact
    { blk := fun j bj hj => by
        by_cases hji : j = id
        · subst hji; rw [self] at hj; cases hj; exact hB
        · rw [same j hji] at hj; exact hr.blk j bj hj
      out := hr.out
      outB := fun j hj => by
        have : j ≠ id := by
          intro h; subst h
          have := hr.outB j hj
          rw [hh] at this; cases this
        rw [same j this]; exact hr.outB j hj
      sep := fun i j bi bj y z hi hl hj ho hij hy hz hyz => by
        by_cases h1 : i = id
        · subst h1
          rw [hx] at hy; cases hy
          rw [same j (Ne.symm hij)] at hj
          exact absurd hyz.symm (hd j bj z hj ho hz)
        · rw [same i h1] at hi
          by_cases h2 : j = id
          · subst h2
            rw [hx] at hz; cases hz
            exact absurd hyz (hd i bi y hi (lo _ hl) hy)
          · rw [same j h2] at hj
            exact hr.sep i j bi bj y z hi hl hj ho hij hy hz hyz
      anc := fun i bi k hi hl ha => by
        by_cases h1 : i = id
        · subst h1; rw [self] at hi; cases hi; rw [hanc] at ha; cases ha
        · rw [same i h1] at hi
          obtain ⟨r1, r2, c, e, f, r3⟩ := hr.anc i bi k hi hl ha
          refine ⟨r1, r2, c, e, f, ?_⟩
          rw [same k (fun h => by subst h; rw [hh] at r3; cases r3)]; exact r3
      con := fun i hi => by rw [same i (by omega)]; exact hr.con i hi
      conL := fun i b' hi hb => by rw [same i (by omega)] at hb; exact hr.conL i b' hi hb
      le := hr.le, glob := hr.glob, bnd := hr.bnd }

/- a number for a block that is reserved is found -/
theorem hole_rel {id : Nat} {x : BI} {ob : Obj} (hr : Rel P nC C β s w) (hh : s.blk id = some .hole) (hx : β id = none) (hb : x.b = w.heap.size) :
    Rel P nC C (addB β id x) s { w with heap := w.heap.push ob } := by
  have ad : ∀ j y, j ≠ id → addB β id x j = some y → β j = some y := fun j y hj hy => by simpa [addB, hj] using hy
  have mono := addB_mono (x := x) hx
  exact
    { blk := fun j bj hj => BRel_push ((hr.blk j bj hj).mono mono)
      out := fun j hj => by
        have : j ≠ id := by
          intro h; subst h
          have := hr.outB j hj
          rw [hh] at this; cases this
        simp only [addB, if_neg this]; exact hr.out j hj
      outB := hr.outB
      sep := fun i j bi bj y z hi hl hj ho hij hy hz hyz => by
        have h1 : i ≠ id := by rintro rfl; rw [hh] at hi; cases hi; cases hl
        have h2 : j ≠ id := by rintro rfl; rw [hh] at hj; cases hj; cases ho
        exact hr.sep i j bi bj y z hi hl hj ho hij (ad i y h1 hy) (ad j z h2 hz) hyz
      anc := hr.anc, con := hr.con, conL := hr.conL, le := hr.le
      glob := fun g hg => let ⟨r1, y, r2, r3⟩ := hr.glob g hg; ⟨r1, y, mono _ _ r2, r3⟩
      bnd := fun j y hy => by
        by_cases h1 : j = id
        · subst h1; rw [addB_same] at hy; cases hy; simp [hb]
        · have := hr.bnd j y (ad j y h1 hy); simp; omega }

/- a map that no block of the evaluator's memory shows is changed -/
theorem map_rel {x : Nat} {ces ces' : Array MapEntry} {clk clk' : Nat} (hr : Rel P nC C β s w) (hw : w.heap[x]? = some (.map ces clk))
    (hd : ∀ i bi y, s.blk i = some bi → bi.own = true → β i = some y → y.b ≠ x) : Rel P nC C β s (putB w x (.map ces' clk')) := by
  exact
    { blk := fun j bj hj => by
        have hB := hr.blk j bj hj
        by_cases hy : ∃ y, β j = some y ∧ y.b = x
        · obtain ⟨y, hy1, hy2⟩ := hy
          cases bj with
          | hole => trivial
          | map kk es => exact absurd hy2 (hd j _ y hj rfl hy1)
          | cells c e l a f =>
            obtain ⟨z, cc, lo, hi, h1, h2, _⟩ := hB
            rw [hy1] at h1; cases h1
            rw [hy2, hw] at h2; cases h2
        · exact BRel_other hB (fun y h1 h2 => hy ⟨y, h1, h2⟩)
      out := hr.out, outB := hr.outB, sep := hr.sep, anc := hr.anc, con := hr.con, conL := hr.conL, le := hr.le, glob := hr.glob
      bnd := fun j y hy => by rw [putB_size]; exact hr.bnd j y hy }

theorem holes_blk : ∀ (k : Nat) (s : St) (j : Nat), (holes k s).blk j = if s.n ≤ j ∧ j < s.n + k then some .hole else s.blk j := by
  intro k
  induction k with
  | zero => intro s j; simp only [holes]; rw [if_neg (by omega)]
  | succ k ih =>
    intro s j
    simp only [holes]
    rw [ih, St.blk_push, St.n_push]
    by_cases h1 : s.n = j
    · subst h1; rw [if_neg (by omega), if_pos rfl, if_pos (by omega)]
    · rw [if_neg h1]
      by_cases h2 : s.n + 1 ≤ j ∧ j < s.n + 1 + k
      · rw [if_pos h2, if_pos (by omega)]
      · rw [if_neg h2, if_neg (by omega)]

theorem holes_n : ∀ (k : Nat) (s : St), (holes k s).n = s.n + k := by
  intro k
  induction k with
  | zero => intro s; rfl
  | succ k ih => intro s; simp only [holes]; rw [ih, St.n_push]; omega

theorem holes_ext (k : Nat) (hr : Rel P nC C β s w) : Ext P nC C β s w β (holes k s) w := by
  have hlt : ∀ j bj, (holes k s).blk j = some bj → bj ≠ .hole → s.blk j = some bj := by
    intro j bj hj hne
    rw [holes_blk] at hj
    split at hj
    · cases hj; exact absurd rfl hne
    · exact hj
  have back : ∀ j bj, s.blk j = some bj → (holes k s).blk j = some bj := by
    intro j bj hj
    have := hr.id_lt hj
    rw [holes_blk, if_neg (by omega)]; exact hj
  have ln : ∀ b : Blk, b.live = true → b ≠ .hole := by rintro b h rfl; cases h
  have on_ : ∀ b : Blk, b.own = true → b ≠ .hole := by rintro b h rfl; cases h
  have rel : Rel P nC C β (holes k s) w :=
    { blk := fun j bj hj => by
        by_cases hb : bj = .hole
        · subst hb; trivial
        · exact hr.blk j bj (hlt j bj hj hb)
      out := fun j hj => hr.out j (by rw [holes_n] at hj; omega)
      outB := fun j hj => by
        rw [holes_n] at hj
        rw [holes_blk, if_neg (by omega)]; exact hr.outB j (by omega)
      sep := fun i j bi bj y z hi hl hj ho hij hy hz hyz => hr.sep i j bi bj y z (hlt i bi hi (ln _ hl)) hl (hlt j bj hj (on_ _ ho)) ho hij hy hz hyz
      anc := fun i bi k' hi hl ha => by
        obtain ⟨r1, r2, c, e, f, r3⟩ := hr.anc i bi k' (hlt i bi hi (ln _ hl)) hl ha
        exact ⟨r1, r2, c, e, f, back _ _ r3⟩
      con := fun i hi => by
        have := hr.le
        rw [holes_blk, if_neg (by omega)]; exact hr.con i hi
      conL := fun i b hi hb => by
        have := hr.le
        rw [holes_blk, if_neg (by omega)] at hb; exact hr.conL i b hi hb
      le := by rw [holes_n]; have := hr.le; omega
      glob := hr.glob, bnd := hr.bnd }
  exact
    { mono := fun _ _ h => h, rel, size := Nat.le_refl _, keep := fun _ _ _ => rfl, os := rfl, output := rfl, tape := rfl, grow := by rw [holes_n]; omega
      holes := fun i hi => back i _ hi
      unhole := fun i hi hh => by rw [holes_blk, if_neg (by omega)] at hh; exact hh
      new := fun _ _ => rfl
      rangeL := fun i bi y hi hl hy => .inr ⟨i, bi, y, hlt i bi hi (ln _ hl), hl, hy, rfl⟩
      rangeO := fun i bi y hi hl hy => .inr ⟨i, bi, y, hlt i bi hi (on_ _ hl), hl, hy, rfl⟩ }

end
end Go.Dv
end
section
/- What the evaluator does at a region that draws its order, step by step. -/
namespace Go.Dv

structure Cfg where
  id : Nat
  a : Ac
  s : St
  recs : List (Nat × Rec)
  effs : List (Nat × St)

def recV : Rec → Value
  | .skip => undefV
  | .pure v => v
  | .read _ v => v
  | .alloc _ _ v => v
  | .ins .. => undefV
  | .eff v => v

def Did (E : Env) (masks : Array Nat) (n i : Nat) (c c' : Cfg) (o : Oper) (rc : Rec) : K → Prop
  | .pure v => rc = .pure v ∧ c'.s = c.s ∧ c'.effs = c.effs ∧ c'.id = c.id
  | .read r => (∃ v, rc = .read r v) ∧ c'.s = c.s ∧ c'.effs = c.effs ∧ c'.id = c.id
  | .alloc b m => rc = .alloc c.id b (m.val c.id) ∧ isAlloc o.op = true ∧ plainB b = true ∧ c'.s = c.s ∧ c'.effs = c.effs ∧ c'.id = c.id + 1
  | .ins kk r k v => rc = .ins r k v ∧ mapRec (masks.getD i 0) kk k r c.recs = true ∧ c.s.blk r = some .hole ∧ keyNew k (insOf r c.recs) = true ∧ c'.s = c.s ∧ c'.effs = c.effs ∧ c'.id = c.id
  | .eff e b => ∃ v m, m ≤ n ∧ runK E m (.eff e b) (fillS c.recs (masks.getD i 0) c.recs c.s) = some (.ret v, c'.s) ∧ rc = .eff v ∧ c'.effs = (i, c'.s) :: c.effs ∧ c'.id = c.id
  | .call f args => ∃ v m, m ≤ n ∧ runK E m (.call f args) (fillS c.recs (masks.getD i 0) c.recs c.s) = some (.ret v, c'.s) ∧ rc = .eff v ∧ c'.effs = (i, c'.s) :: c.effs ∧ c'.id = c.id
  | _ => False

structure StepC (E : Env) (masks : Array Nat) (ops : List Oper) (n i : Nat) (c c' : Cfg) (o : Oper) (rc : Rec) : Prop where
  op : ops[i]? = some o
  put : putT c.a o.dst (some (recV rc)) = some c'.a
  recs : c'.recs = (i, rc) :: c.recs
  did : (guardD ops c.a.tr o = some false ∧ rc = .skip ∧ c'.s = c.s ∧ c'.effs = c.effs ∧ c'.id = (match isAlloc o.op with | true => c.id + 1 | false => c.id)) ∨
    (guardD ops c.a.tr o = some true ∧ ∃ k, opK E.P c.a.tr o = some k ∧ Did E masks n i c c' o rc k)

theorem Did.mono {E : Env} {masks : Array Nat} {n n' i : Nat} {c c' : Cfg} {o : Oper} {rc : Rec} {k : K} (h : Did E masks n i c c' o rc k) (hn : n ≤ n') : Did E masks n' i c c' o rc k := by
  cases k with
  | eff e b => obtain ⟨v, m, h1, h2⟩ := h; exact ⟨v, m, Nat.le_trans h1 hn, h2⟩
  | call f args => obtain ⟨v, m, h1, h2⟩ := h; exact ⟨v, m, Nat.le_trans h1 hn, h2⟩
  | _ => exact h

theorem StepC.mono {E : Env} {masks : Array Nat} {ops : List Oper} {n n' i : Nat} {c c' : Cfg} {o : Oper} {rc : Rec} (h : StepC E masks ops n i c c' o rc) (hn : n ≤ n') : StepC E masks ops n' i c c' o rc :=
  ⟨h.op, h.put, h.recs, h.did.imp id fun ⟨h1, k, h2, h3⟩ => ⟨h1, k, h2, h3.mono hn⟩⟩

theorem drop_cons' {α : Type} {l : List α} {i : Nat} {x : α} {r : List α} (h : l.drop i = x :: r) : l[i]? = some x ∧ l.drop (i + 1) = r ∧ i < l.length := by
  have h1 : l[i]? = some x := by
    have := congrArg (fun q => q[0]?) h
    simpa using this
  refine ⟨h1, ?_, ?_⟩
  · have := congrArg (List.drop 1) h
    rw [List.drop_drop] at this
    simpa using this
  · rcases Nat.lt_or_ge i l.length with h2 | h2
    · exact h2
    · rw [List.getElem?_eq_none h2] at h1; cases h1

theorem trace (E : Env) (masks : Array Nat) (ops : List Oper) : ∀ (n i id : Nat) (a : Ac) (s : St) (recs : List (Nat × Rec)) (effs : List (Nat × St)) (a' : Ac) (recs' : List (Nat × Rec)) (effs' : List (Nat × St)),
    drawD E n masks ops (ops.drop i) i id a s recs effs = some (a', recs', effs') → i ≤ ops.length →
    ∃ cfg : Nat → Cfg, cfg i = ⟨id, a, s, recs, effs⟩ ∧ (cfg ops.length).a = a' ∧ (cfg ops.length).recs = recs' ∧ (cfg ops.length).effs.reverse = effs' ∧
      ∀ j, i ≤ j → j < ops.length → ∃ o rc, StepC E masks ops n j (cfg j) (cfg (j + 1)) o rc := by
  intro n
  induction n with
  | zero => intro i id a s recs effs a' recs' effs' h; simp [drawD] at h
  | succ n ih =>
    intro i id a s recs effs a' recs' effs' h hi
    generalize hl : ops.drop i = l at h
    cases l with
    | nil =>
      simp only [drawD, Option.some.injEq, Prod.mk.injEq] at h
      obtain ⟨rfl, rfl, rfl⟩ := h
      have hlen : ops.length = i := by
        have := congrArg List.length hl
        simp at this; omega
      refine ⟨fun _ => ⟨id, a, s, recs, effs⟩, rfl, rfl, rfl, rfl, fun j h1 h2 => by omega⟩
    | cons o rest =>
      obtain ⟨h1, h2, h3⟩ := drop_cons' hl
      subst h2
      have go : ∀ (id1 : Nat) (a1 : Ac) (s1 : St) (rc : Rec) (effs1 : List (Nat × St)), drawD E n masks ops (ops.drop (i + 1)) (i + 1) id1 a1 s1 ((i, rc) :: recs) effs1 = some (a', recs', effs') →
          StepC E masks ops (n + 1) i ⟨id, a, s, recs, effs⟩ ⟨id1, a1, s1, (i, rc) :: recs, effs1⟩ o rc →
          ∃ cfg : Nat → Cfg, cfg i = ⟨id, a, s, recs, effs⟩ ∧ (cfg ops.length).a = a' ∧ (cfg ops.length).recs = recs' ∧ (cfg ops.length).effs.reverse = effs' ∧
            ∀ j, i ≤ j → j < ops.length → ∃ o rc, StepC E masks ops (n + 1) j (cfg j) (cfg (j + 1)) o rc := by
        intro id1 a1 s1 rc effs1 hd hs
        obtain ⟨cfg, q1, q2, q3, q4, q5⟩ := ih _ _ _ _ _ _ _ _ _ hd (by omega)
        refine ⟨fun j => if j = i then ⟨id, a, s, recs, effs⟩ else cfg j, if_pos rfl, ?_, ?_, ?_, fun j hj1 hj2 => ?_⟩
        · show (if ops.length = i then _ else cfg ops.length).a = a'
          rw [if_neg (by omega)]; exact q2
        · show (if ops.length = i then _ else cfg ops.length).recs = recs'
          rw [if_neg (by omega)]; exact q3
        · show (if ops.length = i then _ else cfg ops.length).effs.reverse = effs'
          rw [if_neg (by omega)]; exact q4
        · show ∃ o rc, StepC E masks ops (n + 1) j (if j = i then _ else cfg j) (if j + 1 = i then _ else cfg (j + 1)) o rc
          by_cases hji : j = i
          · subst hji
            rw [if_pos rfl, if_neg (by omega), q1]
            exact ⟨o, rc, hs⟩
          · rw [if_neg hji, if_neg (by omega)]
            obtain ⟨o', rc', q⟩ := q5 j (by omega) hj2
            exact ⟨o', rc', q.mono (by omega)⟩
      simp only [drawD] at h
      split at h
      · cases h
      · rename_i hg
        split at h
        · cases h
        · rename_i a1 hp
          exact go _ _ _ _ _ h ⟨h1, hp, rfl, .inl ⟨hg, rfl, rfl, rfl, rfl⟩⟩
      · rename_i hg
        split at h
        · cases h
        · rename_i k hk
          split at h
          · -- pure
            split at h
            · cases h
            · rename_i a1 hp
              exact go _ _ _ _ _ h ⟨h1, hp, rfl, .inr ⟨hg, _, hk, rfl, rfl, rfl, rfl⟩⟩
          · -- read
            split at h
            · cases h
            · rename_i v hv
              split at h
              · cases h
              · rename_i a1 hp
                exact go _ _ _ _ _ h ⟨h1, hp, rfl, .inr ⟨hg, _, hk, ⟨_, rfl⟩, rfl, rfl, rfl⟩⟩
          · -- alloc
            split at h
            · rename_i a1 hal hpl hp
              exact go _ _ _ _ _ h ⟨h1, hp, rfl, .inr ⟨hg, _, hk, rfl, hal, hpl, rfl, rfl, rfl⟩⟩
            · cases h
          · -- ins
            split at h
            · rename_i a1 hm hh hn hp
              exact go _ _ _ _ _ h ⟨h1, hp, rfl, .inr ⟨hg, _, hk, rfl, hm, hh, hn, rfl, rfl, rfl⟩⟩
            · cases h
          · -- eff
            split at h
            · rename_i v s1 hrun
              split at h
              · cases h
              · rename_i a1 hp
                exact go _ _ _ _ _ h ⟨h1, hp, rfl, .inr ⟨hg, _, hk, v, n, by omega, hrun, rfl, rfl, rfl⟩⟩
            · cases h
          · split at h
            · rename_i v s1 hrun
              split at h
              · cases h
              · rename_i a1 hp
                exact go _ _ _ _ _ h ⟨h1, hp, rfl, .inr ⟨hg, _, hk, v, n, by omega, hrun, rfl, rfl, rfl⟩⟩
            · cases h
          · cases h

end Go.Dv
end
section
/- Facts of the steps; the masks. -/
namespace Go.Dv

structure Trc (E : Env) (masks : Array Nat) (ops : List Oper) (n : Nat) (a0 : Ac) (s0 : St) (top : Nat) (cfg : Nat → Cfg) (ov : Nat → Oper) (rc : Nat → Rec) : Prop where
  start : cfg 0 = ⟨top, a0, s0, [], []⟩
  step : ∀ j, j < ops.length → StepC E masks ops n j (cfg j) (cfg (j + 1)) (ov j) (rc j)

def recsN (rc : Nat → Rec) : Nat → List (Nat × Rec)
  | 0 => []
  | i + 1 => (i, rc i) :: recsN rc i

def IsE (rc : Nat → Rec) (j : Nat) : Prop := ∃ v, rc j = .eff v

theorem mem_recsN {rc : Nat → Rec} {i j : Nat} {r : Rec} : (j, r) ∈ recsN rc i ↔ j < i ∧ r = rc j := by
  induction i with
  | zero => simp [recsN]
  | succ i ih =>
    simp only [recsN, List.mem_cons, Prod.mk.injEq, ih]
    constructor
    · rintro (⟨rfl, rfl⟩ | ⟨h1, h2⟩)
      · exact ⟨by omega, rfl⟩
      · exact ⟨by omega, h2⟩
    · rintro ⟨h1, rfl⟩
      by_cases h : j = i
      · subst h; exact .inl ⟨rfl, rfl⟩
      · exact .inr ⟨by omega, rfl⟩

section
variable {E : Env} {masks : Array Nat} {ops : List Oper} {n top : Nat} {a0 : Ac} {s0 : St} {cfg : Nat → Cfg} {ov : Nat → Oper} {rc : Nat → Rec}

theorem Trc.recs (h : Trc E masks ops n a0 s0 top cfg ov rc) : ∀ i, i ≤ ops.length → (cfg i).recs = recsN rc i := by
  intro i
  induction i with
  | zero => intro _; rw [h.start]; rfl
  | succ i ih => intro hi; rw [(h.step i (by omega)).recs, ih (by omega)]; rfl

/- a step is an effect, or leaves memory -/
theorem StepC.eff {n i : Nat} {c c' : Cfg} {o : Oper} {r : Rec} (h : StepC E masks ops n i c c' o r) :
    ((∃ v, r = .eff v) ∧ c'.effs = (i, c'.s) :: c.effs) ∨ ((¬ ∃ v, r = .eff v) ∧ c'.s = c.s ∧ c'.effs = c.effs) := by
  rcases h.did with ⟨_, h1, h2, h3, _⟩ | ⟨_, k, _, hd⟩
  · exact .inr ⟨(by rintro ⟨v, hv⟩; rw [h1] at hv; cases hv), h2, h3⟩
  · cases k with
    | pure v => obtain ⟨h1, h2, h3, _⟩ := hd; exact .inr ⟨(by rintro ⟨v, hv⟩; rw [h1] at hv; cases hv), h2, h3⟩
    | read r => obtain ⟨⟨v, h1⟩, h2, h3, _⟩ := hd; exact .inr ⟨(by rintro ⟨v, hv⟩; rw [h1] at hv; cases hv), h2, h3⟩
    | alloc b m => obtain ⟨h1, _, _, h2, h3, _⟩ := hd; exact .inr ⟨(by rintro ⟨v, hv⟩; rw [h1] at hv; cases hv), h2, h3⟩
    | ins kk r k v => obtain ⟨h1, _, _, _, h2, h3, _⟩ := hd; exact .inr ⟨(by rintro ⟨v, hv⟩; rw [h1] at hv; cases hv), h2, h3⟩
    | eff e b => obtain ⟨v, m, _, _, h1, h2, _⟩ := hd; exact .inl ⟨⟨v, h1⟩, h2⟩
    | call f args => obtain ⟨v, m, _, _, h1, h2, _⟩ := hd; exact .inl ⟨⟨v, h1⟩, h2⟩
    | _ => exact hd.elim

theorem Trc.effs (h : Trc E masks ops n a0 s0 top cfg ov rc) : ∀ i, i ≤ ops.length →
    (∀ x ∈ (cfg i).effs, x.1 < i ∧ IsE rc x.1 ∧ x.2 = (cfg (x.1 + 1)).s) ∧ (∀ j, j < i → IsE rc j → (j, (cfg (j + 1)).s) ∈ (cfg i).effs) ∧
    (cfg i).s = (match (cfg i).effs with | [] => s0 | (_, st) :: _ => st) := by
  intro i
  induction i with
  | zero => intro _; rw [h.start]; exact ⟨by simp, fun j hj => by omega, rfl⟩
  | succ i ih =>
    intro hi
    obtain ⟨i1, i2, i3⟩ := ih (by omega)
    rcases (h.step i (by omega)).eff with ⟨h1, h2⟩ | ⟨h1, h2, h3⟩
    · rw [h2]
      refine ⟨fun x hx => ?_, fun j hj he => ?_, rfl⟩
      · rcases List.mem_cons.1 hx with rfl | hx
        · exact ⟨by simp, h1, rfl⟩
        · obtain ⟨q1, q2⟩ := i1 x hx; exact ⟨by omega, q2⟩
      · by_cases hji : j = i
        · subst hji; simp
        · exact List.mem_cons_of_mem _ (i2 j (by omega) he)
    · rw [h3, h2]
      refine ⟨fun x hx => ?_, fun j hj he => ?_, i3⟩
      · obtain ⟨q1, q2⟩ := i1 x hx; exact ⟨by omega, q2⟩
      · by_cases hji : j = i
        · subst hji; exact absurd he h1
        · exact i2 j (by omega) he

theorem Trc.suffix (h : Trc E masks ops n a0 s0 top cfg ov rc) (q : Nat) : ∀ i, q ≤ i → i ≤ ops.length → ∃ l, (cfg i).effs = l ++ (cfg q).effs ∧ ∀ x ∈ l, q ≤ x.1 ∧ x.1 < i := by
  intro i
  induction i with
  | zero => intro hq _; have : q = 0 := by omega
            subst this; exact ⟨[], rfl, by simp⟩
  | succ i ih =>
    intro hq hi
    by_cases hqi : q = i + 1
    · subst hqi; exact ⟨[], rfl, by simp⟩
    · obtain ⟨l, q1, q2⟩ := ih (by omega) (by omega)
      rcases (h.step i (by omega)).eff with ⟨h1, h2⟩ | ⟨h1, h2, h3⟩
      · refine ⟨(i, (cfg (i + 1)).s) :: l, by rw [h2, q1]; rfl, fun x hx => ?_⟩
        rcases List.mem_cons.1 hx with rfl | hx
        · exact ⟨by simp; omega, by simp⟩
        · obtain ⟨r1, r2⟩ := q2 x hx; exact ⟨r1, by omega⟩
      · refine ⟨l, by rw [h3, q1], fun x hx => ?_⟩
        obtain ⟨r1, r2⟩ := q2 x hx; exact ⟨r1, by omega⟩

theorem Trc.still (h : Trc E masks ops n a0 s0 top cfg ov rc) {q i : Nat} (hq : q ≤ i) (hi : i ≤ ops.length) (hn : ∀ j, q ≤ j → j < i → ¬ IsE rc j) : (cfg i).s = (cfg q).s := by
  induction i with
  | zero => have : q = 0 := by omega
            subst this; rfl
  | succ i ih =>
    by_cases hqi : q = i + 1
    · subst hqi; rfl
    · rcases (h.step i (by omega)).eff with ⟨h1, _⟩ | ⟨_, h2, _⟩
      · exact absurd h1 (hn i (by omega) (by omega))
      · rw [h2]; exact ih (by omega) (by omega) (fun j a b => hn j a (by omega))

/- numbers -/
theorem Trc.ids (h : Trc E masks ops n a0 s0 top cfg ov rc) : ∀ i, i ≤ ops.length → top ≤ (cfg i).id ∧ (cfg i).id + nAlloc (ops.drop i) ≤ top + nAlloc ops ∧
    (∀ j, j < i → ∀ id b v, rc j = .alloc id b v → top ≤ id ∧ id < (cfg i).id) ∧
    (∀ j j' id b v b' v', j < i → j' < i → rc j = .alloc id b v → rc j' = .alloc id b' v' → j = j') := by
  intro i
  induction i with
  | zero => intro _; rw [h.start]; exact ⟨Nat.le_refl _, by simp, fun j hj => by omega, fun j j' _ _ _ _ _ hj => by omega⟩
  | succ i ih =>
    intro hi
    obtain ⟨i1, i2, i3, i4⟩ := ih (by omega)
    have hs := h.step i (by omega)
    have hop : ops.drop i = ov i :: ops.drop (i + 1) := by
      have h1 := hs.op
      rw [List.getElem?_eq_getElem (by omega)] at h1
      rw [List.drop_eq_getElem_cons (by omega)]
      rw [Option.some.inj h1]
    rw [hop] at i2
    have hna : nAlloc (ov i :: ops.drop (i + 1)) = (match isAlloc (ov i).op with | true => 1 | false => 0) + nAlloc (ops.drop (i + 1)) := by
      cases hal : isAlloc (ov i).op <;> simp [nAlloc, hal] <;> omega
    rw [hna] at i2
    have key : ((cfg (i + 1)).id = (cfg i).id ∧ ¬ ∃ id b v, rc i = .alloc id b v) ∨ ((cfg (i + 1)).id = (cfg i).id + 1 ∧ isAlloc (ov i).op = true ∧ ((∃ b v, rc i = .alloc (cfg i).id b v) ∨ ¬ ∃ id b v, rc i = .alloc id b v)) := by
      rcases hs.did with ⟨_, h1, _, _, h4⟩ | ⟨_, k, _, hd⟩
      · have hno : ¬ ∃ id b v, rc i = .alloc id b v := by rintro ⟨id, b, v, hv⟩; rw [h1] at hv; cases hv
        cases hal : isAlloc (ov i).op with
        | true => rw [hal] at h4; exact .inr ⟨h4, rfl, .inr hno⟩
        | false => rw [hal] at h4; exact .inl ⟨h4, hno⟩
      · cases k with
        | pure v => obtain ⟨h1, _, _, h4⟩ := hd; exact .inl ⟨h4, by rintro ⟨id, b, v, hv⟩; rw [h1] at hv; cases hv⟩
        | read r => obtain ⟨⟨v, h1⟩, _, _, h4⟩ := hd; exact .inl ⟨h4, by rintro ⟨id, b, v, hv⟩; rw [h1] at hv; cases hv⟩
        | alloc b m => obtain ⟨h1, h2, _, _, _, h4⟩ := hd; exact .inr ⟨h4, h2, .inl ⟨_, _, h1⟩⟩
        | ins kk r k v => obtain ⟨h1, _, _, _, _, _, h4⟩ := hd; exact .inl ⟨h4, by rintro ⟨id, b, v, hv⟩; rw [h1] at hv; cases hv⟩
        | eff e b => obtain ⟨v, m, _, _, h1, _, h4⟩ := hd; exact .inl ⟨h4, by rintro ⟨id, b, v, hv⟩; rw [h1] at hv; cases hv⟩
        | call f args => obtain ⟨v, m, _, _, h1, _, h4⟩ := hd; exact .inl ⟨h4, by rintro ⟨id, b, v, hv⟩; rw [h1] at hv; cases hv⟩
        | _ => exact hd.elim
    rcases key with ⟨k1, k2⟩ | ⟨k1, k2, k3⟩
    · rw [k1]
      refine ⟨i1, by omega, fun j hj id b v hv => ?_, fun j j' id b v b' v' hj hj' hv hv' => ?_⟩
      · by_cases hji : j = i
        · subst hji; exact absurd ⟨_, _, _, hv⟩ k2
        · exact i3 j (by omega) id b v hv
      · have a1 : j ≠ i := by rintro rfl; exact k2 ⟨_, _, _, hv⟩
        have a2 : j' ≠ i := by rintro rfl; exact k2 ⟨_, _, _, hv'⟩
        exact i4 j j' id b v b' v' (by omega) (by omega) hv hv'
    · rw [k1]
      rw [k2] at i2
      have hid : ∀ id b v, rc i = .alloc id b v → id = (cfg i).id := by
        intro id b v hv
        rcases k3 with ⟨b', v', h2⟩ | h2
        · rw [h2] at hv; cases hv; rfl
        · exact absurd ⟨_, _, _, hv⟩ h2
      refine ⟨by omega, by simp only at i2; omega, fun j hj id b v hv => ?_, fun j j' id b v b' v' hj hj' hv hv' => ?_⟩
      · by_cases hji : j = i
        · subst hji; rw [hid id b v hv]; omega
        · have := i3 j (by omega) id b v hv; omega
      · by_cases hji : j = i
        · by_cases hji' : j' = i
          · omega
          · subst hji
            have e1 := hid id b v hv
            have := i3 j' (by omega) id b' v' hv'
            omega
        · by_cases hji' : j' = i
          · subst hji'
            have e1 := hid id b' v' hv'
            have := i3 j (by omega) id b v hv
            omega
          · exact i4 j j' id b v b' v' (by omega) (by omega) hv hv'

/- temporaries -/
theorem putT_get {a a' : Ac} {d : Option Tmp} {x : Value} (h : putT a d (some x) = some a') :
    a'.nt = a.nt ∧ a'.df = a.df ∧ (∀ t, d = some t → t < a.nt) ∧ (∀ t u, a'.tr.get t = some u → (d = some t ∧ u = x) ∨ (d ≠ some t ∧ a.tr.get t = some u)) := by
  unfold putT at h
  split at h
  · cases h; exact ⟨rfl, rfl, fun t h => (by cases h), fun t u hu => .inr ⟨by simp, hu⟩⟩
  · rename_i d
    split at h
    · rename_i hlt
      cases h
      refine ⟨rfl, rfl, fun t ht => (by cases ht; exact Nat.le_of_ble_eq_true hlt), fun t u hu => ?_⟩
      by_cases hdt : d = t
      · subst hdt
        have := Tr.get_set_some _ hu
        exact .inl ⟨rfl, (Option.some.inj this).symm⟩
      · rw [Tr.get_set_ne _ _ hdt] at hu
        exact .inr ⟨fun h => hdt (Option.some.inj h), hu⟩
    · cases h

theorem Trc.tmps (h : Trc E masks ops n a0 s0 top cfg ov rc) : ∀ i, i ≤ ops.length → (cfg i).a.nt = a0.nt ∧ (cfg i).a.df = a0.df ∧ (∀ j, j < i → ∀ d, (ov j).dst = some d → d < a0.nt) ∧
    (∀ t u, (cfg i).a.tr.get t = some u → (∃ j, j < i ∧ (ov j).dst = some t ∧ u = recV (rc j)) ∨ ((∀ j, j < i → (ov j).dst ≠ some t) ∧ a0.tr.get t = some u)) := by
  intro i
  induction i with
  | zero => intro _; rw [h.start]; exact ⟨rfl, rfl, fun j hj => by omega, fun t u hu => .inr ⟨fun j hj => by omega, hu⟩⟩
  | succ i ih =>
    intro hi
    obtain ⟨i1, i2, i3, i4⟩ := ih (by omega)
    obtain ⟨p1, p2, p3, p4⟩ := putT_get (h.step i (by omega)).put
    refine ⟨p1.trans i1, p2.trans i2, fun j hj d hd => ?_, fun t u hu => ?_⟩
    · by_cases hji : j = i
      · subst hji; rw [← i1]; exact p3 d hd
      · exact i3 j (by omega) d hd
    · rcases p4 t u hu with ⟨q1, q2⟩ | ⟨q1, q2⟩
      · exact .inl ⟨i, by omega, q1, q2⟩
      · rcases i4 t u q2 with ⟨j, r1, r2, r3⟩ | ⟨r1, r2⟩
        · exact .inl ⟨j, by omega, r2, r3⟩
        · refine .inr ⟨fun j hj => ?_, r2⟩
          by_cases hji : j = i
          · subst hji; exact q1
          · exact r1 j (by omega)

end

/- the masks -/
theorem orFold (acc : Array Nat) (es : List Edge) (j : Nat) : ∀ s : Nat, (es.foldl (fun s e => if Region.binds .any e then s ||| 2 ^ e.on ||| acc.getD e.on 0 else s) s).testBit j = true →
    s.testBit j = true ∨ ∃ e ∈ es, Region.binds .any e = true ∧ (j = e.on ∨ (acc.getD e.on 0).testBit j = true) := by
  induction es with
  | nil => intro s h; exact .inl h
  | cons e es ih =>
    intro s h
    simp only [List.foldl_cons] at h
    rcases ih _ h with h1 | ⟨e', q1, q2, q3⟩
    · split at h1
      · rename_i hb
        simp only [Nat.testBit_or, Bool.or_eq_true, Nat.testBit_two_pow, decide_eq_true_eq] at h1
        rcases h1 with (h1 | h1) | h1
        · exact .inl h1
        · exact .inr ⟨e, List.mem_cons_self, hb, .inl h1.symm⟩
        · exact .inr ⟨e, List.mem_cons_self, hb, .inr h1⟩
      · exact .inl h1
    · exact .inr ⟨e', List.mem_cons_of_mem _ q1, q2, q3⟩

theorem before_spec (ops : Array Oper) (i j : Nat) (h : bit (Region.before ops) i j = true) :
    ∃ o, ops[i]? = some o ∧ ∃ e ∈ o.after.toList, Region.binds .any e = true ∧ (j = e.on ∨ bit (Region.before ops) e.on j = true) := by
  let f : Array Nat → Oper → Array Nat := fun acc o => acc.push (o.after.foldl (fun s e => if Region.binds .any e then s ||| 2 ^ e.on ||| acc.getD e.on 0 else s) 0)
  have hb : Region.before ops = ops.toList.foldl f #[] := by simp [Region.before, f]
  rw [hb] at h ⊢
  suffices ∀ (l pre : List Oper) (acc : Array Nat), acc.size = pre.length →
      (∀ i j, bit acc i j = true → ∃ o, pre[i]? = some o ∧ ∃ e ∈ o.after.toList, Region.binds .any e = true ∧ (j = e.on ∨ bit acc e.on j = true)) →
      ∀ i j, bit (l.foldl f acc) i j = true → ∃ o, (pre ++ l)[i]? = some o ∧ ∃ e ∈ o.after.toList, Region.binds .any e = true ∧ (j = e.on ∨ bit (l.foldl f acc) e.on j = true) by
    have := this ops.toList [] #[] rfl (fun i j h => by simp [bit] at h) i j h
    simpa using this
  intro l
  induction l with
  | nil => intro pre acc hs hI i j h; simpa using hI i j h
  | cons o l ih =>
    intro pre acc hs hI i j h
    simp only [List.foldl_cons] at h ⊢
    rw [show pre ++ o :: l = (pre ++ [o]) ++ l by simp]
    have old : ∀ i j, i < acc.size → bit (f acc o) i j = bit acc i j := by
      intro i j hi
      simp only [bit, f]
      rw [Array.getD_eq_getD_getElem?, Array.getElem?_push, if_neg (by omega), ← Array.getD_eq_getD_getElem?]
    have grow : ∀ i j, bit acc i j = true → bit (f acc o) i j = true := by
      intro i j hb
      have hi : i < acc.size := by
        rcases Nat.lt_or_ge i acc.size with h | h
        · exact h
        · simp [bit, Array.getD_eq_getD_getElem?, Array.getElem?_eq_none h] at hb
      rw [old i j hi]; exact hb
    refine ih (pre ++ [o]) (f acc o) (by simp [f, hs]) ?_ i j h
    intro i j hb
    by_cases hi : i < acc.size
    · rw [old i j hi] at hb
      obtain ⟨o', q1, e, q2, q3, q4⟩ := hI i j hb
      refine ⟨o', by rw [List.getElem?_append_left (by omega)]; exact q1, e, q2, q3, q4.imp id (grow _ _)⟩
    · by_cases hie : i = acc.size
      · subst hie
        simp only [bit, f] at hb
        rw [Array.getD_eq_getD_getElem?, Array.getElem?_push_size, Option.getD_some, ← Array.foldl_toList] at hb
        rcases orFold acc _ j 0 hb with h0 | ⟨e, q1, q2, q3⟩
        · simp at h0
        · exact ⟨o, by rw [hs]; simp, e, q1, q2, q3.imp id (fun h => grow _ _ h)⟩
      · simp only [bit, f] at hb
        rw [Array.getD_eq_getD_getElem?, Array.getElem?_eq_none (by simp; omega)] at hb
        simp at hb

end Go.Dv
end
section
/- Filling; the skeleton of an order that is drawn. -/
namespace Go.Dv
section
variable {P : Program} {nC : Nat} {C : Nat → Option Blk} {β : Bm} {w : World}

theorem fill_all (all : List (Nat × Rec)) (mask : Nat) : ∀ (rs : List (Nat × Rec)) (s : St), Rel P nC C β s w →
    (∀ j id b v, (j, Rec.alloc id b v) ∈ rs → mask.testBit j = true → insIn mask id all = true → s.blk id = some .hole →
      ∃ x, β id = some x ∧ BRel P β w id (blkOf all id b) ∧ nC ≤ id ∧ (blkOf all id b).anc = none ∧ blkOf all id b ≠ .hole ∧ (∀ i bi y, s.blk i = some bi → bi.own = true → β i = some y → y.b ≠ x.b)) →
    (∀ j id b v j' id' b' v' x x', (j, Rec.alloc id b v) ∈ rs → mask.testBit j = true → s.blk id = some .hole → (j', Rec.alloc id' b' v') ∈ rs → mask.testBit j' = true → s.blk id' = some .hole → id ≠ id' → β id = some x → β id' = some x' → x.b ≠ x'.b) →
    Rel P nC C β (fillS all mask rs s) w ∧ (fillS all mask rs s).n = s.n ∧
      ∀ i, (fillS all mask rs s).blk i = s.blk i ∨ (s.blk i = some .hole ∧ ∃ j b v, (j, Rec.alloc i b v) ∈ rs ∧ mask.testBit j = true ∧ insIn mask i all = true ∧ (fillS all mask rs s).blk i = some (blkOf all i b) ∧ blkOf all i b ≠ .hole) := by
  intro rs
  induction rs with
  | nil => intro s hr _ _; exact ⟨hr, rfl, fun i => .inl rfl⟩
  | cons r rs ih =>
    intro s hr h1 h2
    have tailcase : fillS all mask (r :: rs) s = fillS all mask rs s → _ := fun e => by
      have := ih s hr (fun j id b v hm => h1 j id b v (List.mem_cons_of_mem _ hm)) (fun j id b v j' id' b' v' x x' a1 a2 a3 a4 => h2 j id b v j' id' b' v' x x' (List.mem_cons_of_mem _ a1) a2 a3 (List.mem_cons_of_mem _ a4))
      rw [← e] at this
      exact (show Rel P nC C β (fillS all mask (r :: rs) s) w ∧ (fillS all mask (r :: rs) s).n = s.n ∧
        ∀ i, (fillS all mask (r :: rs) s).blk i = s.blk i ∨ (s.blk i = some .hole ∧ ∃ j b v, (j, Rec.alloc i b v) ∈ (r :: rs) ∧ mask.testBit j = true ∧ insIn mask i all = true ∧ (fillS all mask (r :: rs) s).blk i = some (blkOf all i b) ∧ blkOf all i b ≠ .hole) from
        ⟨this.1, this.2.1, fun i => (this.2.2 i).imp id fun ⟨q0, j, b, v, q1, q2⟩ => ⟨q0, j, b, v, List.mem_cons_of_mem _ q1, q2⟩⟩)
    obtain ⟨j0, rc⟩ := r
    cases rc with
    | alloc id b v =>
      by_cases hc : mask.testBit j0 = true ∧ insIn mask id all = true ∧ s.blk id = some .hole
      · obtain ⟨c1, c2, c3⟩ := hc
        obtain ⟨x, hx, hB, hn, ha, hnh, hd⟩ := h1 j0 id b v List.mem_cons_self c1 c2 c3
        have e : fillS all mask ((j0, .alloc id b v) :: rs) s = fillS all mask rs (s.put id (blkOf all id b)) := by
          simp only [fillS, c1, c2, c3]
        rw [e]
        have hr1 := fill_rel_one hr c3 hx hB hn ha hd
        have nb : ∀ j, (s.put id (blkOf all id b)).blk j = if id = j then some (blkOf all id b) else s.blk j := fun j => St.blk_put _ _ _ _
        have hole_ne : ∀ i, (s.put id (blkOf all id b)).blk i = some .hole → i ≠ id ∧ s.blk i = some .hole := by
          intro i hi
          rw [nb] at hi
          split at hi
          · exact absurd (Option.some.inj hi) hnh
          · rename_i hne; exact ⟨fun h => hne h.symm, hi⟩
        obtain ⟨r1, r2, r3⟩ := ih (s.put id (blkOf all id b)) hr1
          (fun j id' b' v' hm hb hi hh => by
            obtain ⟨q1, q2⟩ := hole_ne id' hh
            obtain ⟨x', p1, p2, p3, p4, p5, p6⟩ := h1 j id' b' v' (List.mem_cons_of_mem _ hm) hb hi q2
            refine ⟨x', p1, p2, p3, p4, p5, fun i bi y hbi ho hy => ?_⟩
            rw [nb] at hbi
            split at hbi
            · rename_i hii
              subst hii
              rw [hx] at hy; cases hy
              exact h2 j0 id b v j id' b' v' x x' List.mem_cons_self c1 c3 (List.mem_cons_of_mem _ hm) hb q2 (Ne.symm q1) hx p1
            · exact p6 i bi y hbi ho hy)
          (fun j id1 b1 v1 j' id' b' v' x x' a1 a2 a3 a4 a5 a6 => h2 j id1 b1 v1 j' id' b' v' x x' (List.mem_cons_of_mem _ a1) a2 (hole_ne _ a3).2 (List.mem_cons_of_mem _ a4) a5 (hole_ne _ a6).2)
        refine ⟨r1, r2, fun i => ?_⟩
        rcases r3 i with q | ⟨q0, j, b', v', q1, q2, q3, q4, q5⟩
        · by_cases hii : id = i
          · subst hii
            exact .inr ⟨c3, j0, b, v, List.mem_cons_self, c1, c2, by rw [q, nb, if_pos rfl], hnh⟩
          · exact .inl (by rw [q, nb, if_neg hii])
        · exact .inr ⟨(hole_ne i q0).2, j, b', v', List.mem_cons_of_mem _ q1, q2, q3, q4, q5⟩
      · refine tailcase ?_
        simp only [fillS]
        split
        · rename_i a1 a2 a3; exact absurd ⟨a1, a2, a3⟩ hc
        · rfl
    | _ => exact tailcase rfl

end

/- the entries of a map -/
theorem mem_insOf {id : Nat} {p : Value × Value} {rs : List (Nat × Rec)} : p ∈ insOf id rs ↔ ∃ j, (j, Rec.ins id p.1 p.2) ∈ rs := by
  induction rs with
  | nil => simp [insOf]
  | cons r rs ih =>
    obtain ⟨j0, rc⟩ := r
    cases rc with
    | ins id' k v =>
      simp only [insOf]
      split
      · rename_i h
        have h := Nat.eq_of_beq_eq_true h
        subst h
        simp only [List.mem_cons, ih, Prod.mk.injEq, Rec.ins.injEq, true_and]
        constructor
        · rintro (rfl | ⟨j, hj⟩)
          · exact ⟨j0, .inl ⟨rfl, rfl, rfl⟩⟩
          · exact ⟨j, .inr hj⟩
        · rintro ⟨j, ⟨rfl, h1, h2⟩ | hj⟩
          · exact .inl (by cases p; simp_all)
          · exact .inr ⟨j, hj⟩
      · rename_i h
        have hne : id ≠ id' := by rintro rfl; simp at h
        simp only [ih, List.mem_cons, Prod.mk.injEq, Rec.ins.injEq]
        constructor
        · rintro ⟨j, hj⟩; exact ⟨j, .inr hj⟩
        · rintro ⟨j, ⟨_, h1, _⟩ | hj⟩
          · exact absurd h1 hne
          · exact ⟨j, hj⟩
    | _ =>
      simp only [insOf, ih, List.mem_cons, Prod.mk.injEq, reduceCtorEq, and_false, false_or]

theorem insIn_spec {mask id : Nat} {rs : List (Nat × Rec)} (h : insIn mask id rs = true) : ∀ j k v, (j, Rec.ins id k v) ∈ rs → mask.testBit j = true := by
  induction rs with
  | nil => intro j k v hm; simp at hm
  | cons r rs ih =>
    obtain ⟨j0, rc⟩ := r
    intro j k v hm
    cases rc with
    | ins id' k' v' =>
      simp only [insIn] at h
      split at h
      · rename_i hid
        split at h
        · rename_i hb
          rcases List.mem_cons.1 hm with he | hm
          · cases he; exact hb
          · exact ih h j k v hm
        · cases h
      · rename_i hid
        rcases List.mem_cons.1 hm with he | hm
        · cases he; simp at hid
        · exact ih h j k v hm
    | _ =>
      rcases List.mem_cons.1 hm with he | hm
      · cases he
      · exact ih (by simpa only [insIn] using h) j k v hm

theorem keyNew_spec {kk : Kk} {k : Value} (hk : kk.has k = true) {es : List (Value × Value)} (hes : ∀ p ∈ es, kk.has p.1 = true) (h : keyNew k es = true) : ∀ p ∈ es, p.1 ≠ k := by
  induction es with
  | nil => intro p hp; cases hp
  | cons e es ih =>
    obtain ⟨a, b⟩ := e
    simp only [keyNew] at h
    split at h
    · cases h
    · rename_i he
      intro p hp
      rcases List.mem_cons.1 hp with rfl | hp
      · intro hh
        have := (keyEq_iff hk (hes _ List.mem_cons_self)).2 hh.symm
        rw [this] at he; cases he
      · exact ih (fun p hp => hes p (List.mem_cons_of_mem _ hp)) h p hp

theorem mapSet_new {kk : Kk} {k v : Value} (hk : kk.has k = true) {es : List (Value × Value)} (hes : ∀ p ∈ es, kk.has p.1 = true) (h : ∀ p ∈ es, p.1 ≠ k) : mapSet k v es = es ++ [(k, v)] := by
  induction es with
  | nil => rfl
  | cons e es ih =>
    obtain ⟨a, b⟩ := e
    simp only [mapSet]
    split
    · rename_i he
      exact absurd ((keyEq_iff hk (hes _ List.mem_cons_self)).1 he).symm (h _ List.mem_cons_self)
    · rw [ih (fun p hp => hes p (List.mem_cons_of_mem _ hp)) (fun p hp => h p (List.mem_cons_of_mem _ hp))]
      rfl

theorem len_le {l : List (Value × Value)} : ∀ {l' : List (Value × Value)}, KDist l → (∀ p ∈ l, p ∈ l') → l.length ≤ l'.length := by
  induction l with
  | nil => intro l' _ _; simp
  | cons a l ih =>
    intro l' hd hs
    obtain ⟨h1, h2⟩ := List.pairwise_cons.1 hd
    have ha := hs a List.mem_cons_self
    obtain ⟨l1, l2, rfl⟩ := List.append_of_mem ha
    have := ih (l' := l1 ++ l2) h2 (fun p hp => by
      have hne : p ≠ a := fun hh => h1 p hp (by rw [hh])
      have := hs p (List.mem_cons_of_mem _ hp)
      simp only [List.mem_append, List.mem_cons] at this ⊢
      rcases this with h | h | h
      · exact .inl h
      · exact absurd h hne
      · exact .inr h)
    simp only [List.length_append, List.length_cons] at this ⊢
    omega

theorem MRel.same {β : Bm} {kk : Kk} {es es' : List (Value × Value)} {ces : List MapEntry} (h : MRel β kk es ces) (hd : KDist es') (hm : ∀ p, p ∈ es' ↔ p ∈ es) : MRel β kk es' ces :=
  { keys := fun p hp => h.keys p ((hm p).1 hp), dist := hd, cdist := h.cdist
    fwd := fun p hp => h.fwd p ((hm p).1 hp), bwd := fun e he => let ⟨p, a, b⟩ := h.bwd e he; ⟨p, (hm p).2 a, b⟩
    len := by
      rw [← h.len]
      exact Nat.le_antisymm (len_le hd fun p hp => (hm p).1 hp) (len_le h.dist fun p hp => (hm p).2 hp) }

theorem mapRec_spec {mask r : Nat} {kk : Kk} {k : Value} {rs : List (Nat × Rec)} (h : mapRec mask kk k r rs = true) :
    kk.has k = true ∧ ∃ j kk' v, (j, Rec.alloc r (.map kk' []) v) ∈ rs ∧ kk'.has k = true ∧ mask.testBit j = true := by
  induction rs with
  | nil => simp [mapRec] at h
  | cons rc rs ih =>
    unfold mapRec at h
    split at h
    · rename_i he; cases he
    · rename_i j id kk' v rs' he
      cases he
      split at h
      · rename_i hid
        have hid := Nat.eq_of_beq_eq_true hid
        subst hid
        split at h
        · rename_i h1 h2 h3
          exact ⟨h1, j, kk', v, List.mem_cons_self, h2, h3⟩
        · cases h
      · obtain ⟨q1, j', kk'', v', q2, q3⟩ := ih h
        exact ⟨q1, j', kk'', v', List.mem_cons_of_mem _ q2, q3⟩
    · rename_i he
      cases he
      obtain ⟨q1, j', kk'', v', q2, q3⟩ := ih h
      exact ⟨q1, j', kk'', v', List.mem_cons_of_mem _ q2, q3⟩

/- an order that is drawn -/
def unl (n : Nat) (listed : Array Bool) : List Nat := (List.range n).filter fun i => !listed.getD i false

theorem wpAny_of {P : Program} {ops : Array Oper} {Q : Exit → Act → World → Prop} (Inv : (Nat → Bool) → Act → World → Prop)
    (hafter : ∀ i o, ops[i]? = some o → ∀ e ∈ o.after.toList, Region.binds .any e = true → e.on < i)
    (step : ∀ X act w i, Inv X act w → (∀ i, X i = true → ∀ j, bit (Region.before ops) i j = true → X j = true) → X i = false → i < ops.size → (∀ j, bit (Region.before ops) i j = true → X j = true) →
      wpOp P ops Q i (fun act' w' => Inv (fun j => if j = i then true else X j) act' w') act w)
    (final : ∀ X act w, Inv X act w → (∀ i, i < ops.size → X i = true) → Q .normal act w) :
    ∀ (fuel : Nat) (listed : Array Bool) (act : Act) (w : World), listed.size = ops.size → (unl ops.size listed).length ≤ fuel →
      (∀ i, listed.getD i false = true → ∀ j, bit (Region.before ops) i j = true → listed.getD j false = true) → Inv (fun i => listed.getD i false) act w → wpAny P .any ops Q fuel listed act w := by
  have allD : ∀ listed : Array Bool, listed.size = ops.size → Region.ready .any ops listed = [] → ∀ i, i < ops.size → listed.getD i false = true := by
    intro listed hs hr i
    induction i using Nat.strongRecOn with
    | _ i ih =>
      intro hi
      cases hx : listed.getD i false with
      | true => rfl
      | false =>
        exfalso
        have : i ∈ Region.ready .any ops listed := by
          simp only [Region.ready, List.mem_filter, List.mem_range, Bool.and_eq_true]
          refine ⟨hi, ?_, ?_⟩
          · have : listed.getD i true = false := by
              rw [Array.getD_eq_getD_getElem?] at hx ⊢
              rw [Array.getElem?_eq_getElem (by omega)] at hx ⊢
              exact hx
            rw [this]; rfl
          · have ho : ops[i]? = some ops[i] := Array.getElem?_eq_getElem hi
            rw [ho]
            simp only [Option.map_some, Option.getD_some]
            rw [Array.all_eq_true']
            intro e he
            have he' : e ∈ (ops[i]).after.toList := Array.mem_toList_iff.2 he
            cases hb : Region.binds .any e with
            | false => rfl
            | true =>
              have hlt := hafter i _ ho e he' hb
              rw [ih e.on hlt (by omega)]; rfl
        rw [hr] at this
        cases this
  intro fuel
  induction fuel with
  | zero =>
    intro listed act w hs hf hc hI
    have hall : ∀ i, i < ops.size → listed.getD i false = true := by
      intro i hi
      cases hx : listed.getD i false with
      | true => rfl
      | false =>
        have : i ∈ unl ops.size listed := by simp only [unl, List.mem_filter, List.mem_range]; exact ⟨hi, by rw [hx]; rfl⟩
        have h0 : unl ops.size listed = [] := List.eq_nil_of_length_eq_zero (by omega)
        rw [h0] at this; cases this
    refine ⟨?_, final _ act w hI hall⟩
    apply List.eq_nil_iff_forall_not_mem.2
    intro i hi
    simp only [Region.ready, List.mem_filter, List.mem_range, Bool.and_eq_true] at hi
    obtain ⟨h1, h2, _⟩ := hi
    have h3 := hall i h1
    rw [Array.getD_eq_getD_getElem?, Array.getElem?_eq_getElem (by omega), Option.getD_some] at h3
    rw [Array.getD_eq_getD_getElem?, Array.getElem?_eq_getElem (by omega), Option.getD_some, h3] at h2
    cases h2
  | succ fuel ih =>
    intro listed act w hs hf hc hI
    refine ⟨fun hr => final _ act w hI (allD listed hs hr), fun i hi => ?_⟩
    simp only [Region.ready, List.mem_filter, List.mem_range, Bool.and_eq_true] at hi
    obtain ⟨h1, h2, h3⟩ := hi
    have hx : listed.getD i false = false := by
      rw [Array.getD_eq_getD_getElem?, Array.getElem?_eq_getElem (by omega), Option.getD_some] at h2 ⊢
      simpa using h2
    have ho : ops[i]? = some ops[i] := Array.getElem?_eq_getElem h1
    have hm : ∀ j, bit (Region.before ops) i j = true → listed.getD j false = true := by
      intro j hb
      obtain ⟨o, q1, e, q2, q3, q4⟩ := before_spec ops i j hb
      rw [ho] at q1; cases q1
      rw [ho] at h3
      simp only [Option.map_some, Option.getD_some] at h3
      rw [Array.all_eq_true'] at h3
      have := h3 e (Array.mem_toList_iff.1 q2)
      rw [q3] at this
      have hon : listed.getD e.on false = true := by simpa using this
      rcases q4 with rfl | q4
      · exact hon
      · exact hc e.on hon j q4
    have hset : ∀ j, (listed.setIfInBounds i true).getD j false = (if j = i then true else listed.getD j false) := by
      intro j
      by_cases hji : j = i
      · subst hji
        rw [if_pos rfl, Array.getD_eq_getD_getElem?, Array.getElem?_setIfInBounds_self_of_lt (by omega)]; rfl
      · rw [if_neg hji, Array.getD_eq_getD_getElem?, Array.getElem?_setIfInBounds_ne (Ne.symm hji), ← Array.getD_eq_getD_getElem?]
    refine wpOp_mono (fun act' w' hI' => ?_) (step _ act w i hI hc hx h1 hm)
    refine ih (listed.setIfInBounds i true) act' w' (by simp [hs]) ?_ ?_ ?_
    · have hlt : (unl ops.size (listed.setIfInBounds i true)).length < (unl ops.size listed).length := by
        have e : unl ops.size (listed.setIfInBounds i true) = (unl ops.size listed).filter fun j => j != i := by
          simp only [unl, List.filter_filter]
          congr 1
          funext j
          rw [hset]
          by_cases hji : j = i
          · subst hji; simp
          · simp [hji]
        rw [e]
        have hmem : i ∈ unl ops.size listed := by simp only [unl, List.mem_filter, List.mem_range]; exact ⟨h1, by rw [hx]; rfl⟩
        exact List.length_filter_lt_length_iff_exists.2 ⟨i, hmem, by simp⟩
      omega
    · intro k hk j hb
      rw [hset] at hk ⊢
      by_cases hji : j = i
      · rw [if_pos hji]
      · rw [if_neg hji]
        by_cases hki : k = i
        · subst hki; exact hm j hb
        · rw [if_neg hki] at hk; exact hc k hk j hb
    · have : (fun j => (listed.setIfInBounds i true).getD j false) = (fun j => if j = i then true else listed.getD j false) := funext hset
      rw [this]; exact hI'

end Go.Dv
end
section
/- A drawn order: the invariant's parts. -/
namespace Go.Dv

/- equal values -/
mutual
theorem veq_eq : ∀ (a b : Value), veq a b = true → a = b
  | .bool a, b, h => by cases b <;> simp_all [veq]
  | .int k a, b, h => by cases b <;> simp_all [veq]
  | .float k a, b, h => by cases b <;> simp [veq] at h
  | .complex k a c, b, h => by cases b <;> simp [veq] at h
  | .string a, b, h => by
    cases b <;> simp only [veq, Bool.false_eq_true] at h
    rename_i c
    congr 1
    exact bytes_beq_iff.1 h
  | .pointer a, b, h => by cases b <;> simp_all [veq]
  | .slice a l c, b, h => by cases b <;> simp_all [veq]
  | .map a, b, h => by cases b <;> simp_all [veq]
  | .chan a, b, h => by cases b <;> simp [veq] at h
  | .nilFunc, b, h => by cases b <;> simp_all [veq]
  | .nilIface, b, h => by cases b <;> simp_all [veq]
  | .func fn ⟨x⟩ ⟨y⟩, b, h => by
    cases b <;> simp only [veq, Bool.false_eq_true] at h
    rename_i fn' x' y'
    obtain ⟨x'⟩ := x'
    obtain ⟨y'⟩ := y'
    simp only [Bool.and_eq_true, decide_eq_true_eq] at h
    obtain ⟨⟨h1, h2⟩, h3⟩ := h
    rw [h1, veqs_eq x x' h2, veqs_eq y y' h3]
  | .iface t v, b, h => by
    cases b <;> simp only [veq, Bool.false_eq_true, Bool.and_eq_true, beq_iff_eq] at h
    rename_i t' v'
    rw [h.1, veq_eq v v' h.2]
  | .agg ⟨x⟩, b, h => by
    cases b <;> simp only [veq, Bool.false_eq_true] at h
    rename_i x'
    obtain ⟨x'⟩ := x'
    simp only at h
    rw [veqs_eq x x' h]
  | .tuple ⟨x⟩, b, h => by
    cases b <;> simp only [veq, Bool.false_eq_true] at h
    rename_i x'
    obtain ⟨x'⟩ := x'
    simp only at h
    rw [veqs_eq x x' h]
theorem veqs_eq : ∀ (a b : List Value), veqs a b = true → a = b
  | [], b, h => by cases b <;> simp_all [veqs]
  | x :: xs, b, h => by
    cases b with
    | nil => simp [veqs] at h
    | cons y ys =>
      simp only [veqs] at h
      split at h
      · rename_i h1; rw [veq_eq x y h1, veqs_eq xs ys h]
      · cases h
end

theorem readOk_spec {masks : Array Nat} {all : List (Nat × Rec)} {i : Nat} {r : Rd} {v : Value} : ∀ (rest : List (Nat × St)) (prev : Option Nat) (s : St), readOk masks all i r v prev s rest = true →
    ∀ l1 l2, rest = l1 ++ l2 → (∀ e, (match l1.getLast? with | some (e, _) => some e | none => prev) = some e → bit masks e i = false) →
      (∀ e' s' l, l2 = (e', s') :: l → bit masks i e' = false) →
      rdVal (fillS all (masks.getD i 0) all (match l1.getLast? with | some (_, st) => st | none => s)) r = some v := by
  intro rest
  induction rest with
  | nil =>
    intro prev s h l1 l2 hl h1 h2
    have : l1 = [] ∧ l2 = [] := by simpa using hl.symm
    obtain ⟨rfl, rfl⟩ := this
    have hp : ∀ e, prev = some e → bit masks e i = false := fun e he => h1 e (by simpa using he)
    clear h1
    unfold readOk at h
    split at h
    · rename_i hc
      exfalso
      cases prev with
      | none => simp at hc
      | some e => simp [hp e rfl] at hc
    simp only at h
    split at h
    · cases h
    · rename_i v' hv'
      split at h
      · cases h
      · rename_i hq
        simp only [List.getLast?_nil]
        rw [hv', veq_eq _ _ hq]
  | cons x rest ih =>
    obtain ⟨e0, s0⟩ := x
    intro prev s h l1 l2 hl h1 h2
    cases l1 with
    | nil =>
      simp only [List.nil_append] at hl
      subst hl
      have hp : ∀ e, prev = some e → bit masks e i = false := fun e he => h1 e (by simpa using he)
      clear h1
      have hn : bit masks i e0 = false := h2 e0 s0 rest rfl
      unfold readOk at h
      split at h
      · rename_i hc
        exfalso
        cases prev with
        | none => simp [hn] at hc
        | some e => simp [hp e rfl, hn] at hc
      simp only at h
      split at h
      · cases h
      · rename_i v' hv'
        split at h
        · cases h
        · rename_i hq
          simp only [List.getLast?_nil]
          rw [hv', veq_eq _ _ hq]
    | cons y l1 =>
      simp only [List.cons_append, List.cons.injEq] at hl
      obtain ⟨rfl, hl⟩ := hl
      have hrest : readOk masks all i r v (some e0) s0 rest = true := by
        unfold readOk at h
        split at h
        · exact h
        · split at h
          · cases h
          · split at h
            · cases h
            · exact h
      have := ih (some e0) s0 hrest l1 l2 hl (fun e he => h1 e (by
        rw [List.getLast?_cons]
        cases hq : l1.getLast? with
        | none => rw [hq] at he; simpa using he
        | some p => rw [hq] at he; simpa using he)) h2
      rw [List.getLast?_cons]
      cases hq : l1.getLast? with
      | none => rw [hq] at this; simpa using this
      | some p => rw [hq] at this; simpa using this

theorem readsOk_spec {masks : Array Nat} {all : List (Nat × Rec)} {s0 : St} {effs : List (Nat × St)} {rs : List (Nat × Rec)} (h : readsOk masks all s0 effs rs = true) {i : Nat} {r : Rd} {v : Value} (hm : (i, Rec.read r v) ∈ rs) :
    readOk masks all i r v none s0 effs = true := by
  induction rs with
  | nil => cases hm
  | cons x rs ih =>
    obtain ⟨j, rc⟩ := x
    cases rc with
    | read r' v' =>
      simp only [readsOk] at h
      split at h
      · rename_i h1
        rcases List.mem_cons.1 hm with he | hm
        · cases he; exact h1
        · exact ih h hm
      · cases h
    | _ =>
      rcases List.mem_cons.1 hm with he | hm
      · cases he
      · exact ih (by simpa only [readsOk] using h) hm

theorem chainOk_spec {masks : Array Nat} {effs : List (Nat × St)} (h : chainOk masks effs = true) : ∀ l1 e s e' s' l2, effs = l1 ++ (e, s) :: (e', s') :: l2 → bit masks e' e = true := by
  intro l1
  induction l1 generalizing effs with
  | nil =>
    intro e s e' s' l2 he
    subst he
    simp only [List.nil_append, chainOk] at h
    split at h
    · assumption
    · cases h
  | cons x l1 ih =>
    intro e s e' s' l2 he
    subst he
    obtain ⟨e0, s0⟩ := x
    have : chainOk masks (l1 ++ (e, s) :: (e', s') :: l2) = true := by
      cases l1 with
      | nil =>
        simp only [List.cons_append, List.nil_append] at h ⊢
        rw [chainOk] at h
        split at h
        · exact h
        · cases h
      | cons y l1 =>
        obtain ⟨y1, y2⟩ := y
        simp only [List.cons_append] at h ⊢
        rw [chainOk] at h
        split at h
        · exact h
        · cases h
    exact ih this e s e' s' l2 rfl

theorem allocIn_spec {mask id : Nat} {rs : List (Nat × Rec)} (h : allocIn mask id rs = false) : ∀ j b v, (j, Rec.alloc id b v) ∈ rs → mask.testBit j = false := by
  induction rs with
  | nil => intro j b v hm; cases hm
  | cons x rs ih =>
    obtain ⟨j0, rc⟩ := x
    intro j b v hm
    cases rc with
    | alloc id' b' v' =>
      simp only [allocIn] at h
      split at h
      · split at h
        · cases h
        · rename_i hb
          rcases List.mem_cons.1 hm with he | hm
          · cases he; exact hb
          · exact ih h j b v hm
      · rename_i hid
        rcases List.mem_cons.1 hm with he | hm
        · cases he; simp at hid
        · exact ih h j b v hm
    | _ =>
      rcases List.mem_cons.1 hm with he | hm
      · cases he
      · exact ih (by simpa only [allocIn] using h) j b v hm

theorem lateOne_spec {masks : Array Nat} {all : List (Nat × Rec)} {j id : Nat} {rs : List (Nat × Rec)} (h : lateOne masks all j id rs = true) : ∀ i v, (i, Rec.eff v) ∈ rs → i < j → allocIn (masks.getD i 0) id all = false := by
  induction rs with
  | nil => intro i v hm; cases hm
  | cons x rs ih =>
    obtain ⟨i0, rc⟩ := x
    intro i v hm hij
    cases rc with
    | eff v' =>
      simp only [lateOne] at h
      split at h
      · split at h
        · cases h
        · rename_i hb
          rcases List.mem_cons.1 hm with he | hm
          · cases he; exact hb
          · exact ih h i v hm hij
      · rename_i hlt
        rcases List.mem_cons.1 hm with he | hm
        · cases he
          have : Nat.blt i0 j = true := Nat.ble_eq_true_of_le hij
          rw [this] at hlt; cases hlt
        · exact ih h i v hm hij
    | _ =>
      rcases List.mem_cons.1 hm with he | hm
      · cases he
      · exact ih (by simpa only [lateOne] using h) i v hm hij

theorem lateOk_spec {masks : Array Nat} {all : List (Nat × Rec)} {rs : List (Nat × Rec)} (h : lateOk masks all rs = true) : ∀ j id k v, (j, Rec.ins id k v) ∈ rs → lateOne masks all j id all = true := by
  induction rs with
  | nil => intro j id k v hm; cases hm
  | cons x rs ih =>
    obtain ⟨i0, rc⟩ := x
    intro j id k v hm
    cases rc with
    | ins id' k' v' =>
      simp only [lateOk] at h
      split at h
      · rename_i h1
        rcases List.mem_cons.1 hm with he | hm
        · cases he; exact h1
        · exact ih h j id k v hm
      · cases h
    | _ =>
      rcases List.mem_cons.1 hm with he | hm
      · cases he
      · exact ih (by simpa only [lateOk] using h) j id k v hm

/- guards, by the one temporary at which they look -/
theorem guard_rel' {β : Bm} {tr : Tr} {tmps : Array Value} {ops : Array Oper} {o : Oper} {b : Bool}
    (h : ∀ j want p d, o.guard = some (j, want) → ops[j]? = some p → p.dst = some d → ∀ v, tr.get d = some v → VRel β v (tmps.getD d undef)) (hg : guardD ops.toList tr o = some b) :
    Region.wanted o (yielded ops tmps) = b := by
  unfold guardD at hg
  unfold Region.wanted
  split at hg
  · rename_i h0; rw [h0]; simpa using hg
  · rename_i j want h0
    rw [h0]
    simp only
    unfold yielded
    rw [Array.getElem?_toList] at hg
    split at hg
    · rename_i p hp
      rw [hp]
      simp only [Option.bind_some]
      split at hg
      · rename_i d hd
        rw [hd]
        simp only [Option.bind_some]
        split at hg
        · rename_i b' hb'
          have := (h j want p d h0 hp hd _ hb').bool_inv
          rw [Array.getD_eq_getD_getElem?] at this
          cases hq : tmps[d]? with
          | none => rw [hq] at this; simp [undef] at this
          | some u =>
            rw [hq] at this
            simp only [Option.getD_some] at this
            subst this
            simp only [Option.some.injEq] at hg
            subst hg
            cases b' <;> cases want <;> rfl
        · rename_i u hnb hu
          simp only [Option.some.injEq] at hg
          subst hg
          have hv := h j want p d h0 hp hd _ hu
          rw [Array.getD_eq_getD_getElem?] at hv
          cases hq : tmps[d]? with
          | none => rfl
          | some u' =>
            rw [hq] at hv
            simp only [Option.getD_some] at hv
            cases hv <;> first | rfl | exact absurd rfl (hnb _)
        · cases hg
      · rename_i hd
        simp only [Option.some.injEq] at hg
        subst hg
        rw [hd]; rfl
    · rename_i hp
      simp only [Option.some.injEq] at hg
      subst hg
      rw [hp]; rfl

end Go.Dv
end
section
/- A drawn order: the invariant. -/
namespace Go.Dv

def PB (β : Bm) (P : Program) (rc : Nat → Rec) (N : Nat) (X : Nat → Bool) (id : Nat) : Blk → Obj → Prop
  | .cells c e l a f, ob => NewB P β (.cells c e l a f) ob
  | .map kk _, ob => ∃ ces clk es, ob = .map ces clk ∧ MRel β kk es ces.toList ∧ (∀ p : Value × Value, p ∈ es ↔ ∃ j, j < N ∧ X j = true ∧ rc j = .ins id p.1 p.2)
  | .hole, _ => False

def Priv (w0 : World) (β : Bm) (P : Program) (S : St) (w : World) (rc : Nat → Rec) (N : Nat) (X : Nat → Bool) (id : Nat) (b : Blk) : Prop :=
  ∃ (x : BI) (ob : Obj), β id = some x ∧ w0.heap.size ≤ x.b ∧ x.d = 0 ∧ x.n = obSize ob ∧ w.heap[x.b]? = some ob ∧ PB β P rc N X id b ob ∧ b.anc = none ∧
    (∀ i bi y, S.blk i = some bi → bi.own = true → β i = some y → y.b ≠ x.b)

/- what is given of a region -/
structure Rg (E : Env) (C : Nat → Option Blk) (ops : Array Oper) (n : Nat) (a0 : Ac) (s s0 : St) (cfg : Nat → Cfg) (ov : Nat → Oper) (rc : Nat → Rec) (β0 : Bm) (w0 : World) (act0 : Act) : Prop where
  T : Trc E (Region.before ops) ops.toList n a0 s0 s.n cfg ov rc
  hs0 : s0 = holes (nAlloc ops.toList) s
  pair : ∀ i j, i < ops.size → j < ops.size → pairOk (Region.before ops) ops i j = true
  chain : chainOk (Region.before ops) (cfg ops.size).effs.reverse = true
  late : lateOk (Region.before ops) (recsN rc ops.size) (recsN rc ops.size) = true
  reads : readsOk (Region.before ops) (recsN rc ops.size) s0 (cfg ops.size).effs.reverse (recsN rc ops.size) = true
  run : ∀ m, m ≤ n → RunOk E C m
  r0 : Rel E.P E.nC C β0 s w0
  ac0 : AcR β0 a0 act0

structure DI (E : Env) (C : Nat → Option Blk) (N : Nat) (a0 : Ac) (s s0 : St) (cfg : Nat → Cfg) (ov : Nat → Oper) (rc : Nat → Rec) (β0 : Bm) (w0 : World) (act0 : Act)
    (β : Bm) (q : Nat) (X : Nat → Bool) (act : Act) (w : World) : Prop where
  ext : Ext E.P E.nC C β0 s w0 β (cfg q).s w
  qN : q ≤ N
  grow : s0.n ≤ (cfg q).s.n
  eff : ∀ j, j < N → IsE rc j → (X j = true ↔ j < q)
  size : act.tmps.size = a0.nt
  df : act.defers = act0.defers
  tmX : ∀ j, j < N → X j = true → ∀ d, (ov j).dst = some d → VRel β (recV (rc j)) (act.tmps.getD d undef)
  tm0 : ∀ t, (∀ j, j < N → X j = true → (ov j).dst ≠ some t) → act.tmps.getD t undef = act0.tmps.getD t undef
  unal : ∀ j, j < N → X j = false → ∀ id b v, rc j = .alloc id b v → β id = none ∧ (cfg q).s.blk id = some .hole
  priv : ∀ j, j < N → X j = true → ∀ id b v, rc j = .alloc id b v → (cfg q).s.blk id = some .hole → Priv w0 β E.P (cfg q).s w rc N X id b
  full : ∀ j, j < N → ∀ id b v, rc j = .alloc id b v → (cfg q).s.blk id ≠ some .hole → ∀ j', j' < N → ∀ k u, rc j' = .ins id k u → X j' = true
  dist : ∀ j j', j < N → j' < N → X j = true → X j' = true → ∀ id b v id' b' v' x x', rc j = .alloc id b v → rc j' = .alloc id' b' v' → id ≠ id' → (cfg q).s.blk id = some .hole →
    (cfg q).s.blk id' = some .hole → β id = some x → β id' = some x' → x.b ≠ x'.b

section
variable {E : Env} {C : Nat → Option Blk} {ops : Array Oper} {n : Nat} {a0 : Ac} {s s0 : St} {cfg : Nat → Cfg} {ov : Nat → Oper} {rc : Nat → Rec} {β0 β : Bm} {w0 w : World} {act0 act : Act}
  {q : Nat} {X : Nat → Bool}

theorem Rg.stp (g : Rg E C ops n a0 s s0 cfg ov rc β0 w0 act0) {j : Nat} (hj : j < ops.size) : StepC E (Region.before ops) ops.toList n j (cfg j) (cfg (j + 1)) (ov j) (rc j) :=
  g.T.step j (by simpa using hj)

theorem Rg.op (g : Rg E C ops n a0 s s0 cfg ov rc β0 w0 act0) {j : Nat} (hj : j < ops.size) : ops[j]? = some (ov j) := by
  rw [← Array.getElem?_toList]; exact (g.stp hj).op

theorem Rg.pairs (g : Rg E C ops n a0 s s0 cfg ov rc β0 w0 act0) {i j : Nat} (hi : i < ops.size) (hj : j < ops.size) (hij : i ≠ j) {d : Tmp} (hd : (ov j).dst = some d) :
    (ov i).dst ≠ some d ∧ ((d ∈ tmpsOf (ov i) ∨ (∃ want, (ov i).guard = some (j, want))) → (if j < i then bit (Region.before ops) i j else bit (Region.before ops) j i) = true) := by
  have h := g.pair i j hi hj
  simp only [pairOk, g.op hi, g.op hj, hd] at h
  have hne : (i == j) = false := by simpa using hij
  rw [hne] at h
  simp only [Bool.false_or, Bool.and_eq_true, bne_iff_ne, ne_eq, Bool.or_eq_true, Bool.not_eq_true', Bool.or_eq_false_iff] at h
  refine ⟨h.1, fun hr => ?_⟩
  rcases h.2 with ⟨h1, h2⟩ | h1
  · rcases hr with hr | ⟨want, hr⟩
    · have : (tmpsOf (ov i)).contains d = true := by simpa using hr
      rw [this] at h1; cases h1
    · rw [hr] at h2
      simp at h2
  · exact h1

theorem Rg.idlt (g : Rg E C ops n a0 s s0 cfg ov rc β0 w0 act0) {j : Nat} (hj : j < ops.size) {id : Nat} {b : Blk} {v : Value} (hr : rc j = .alloc id b v) : s.n ≤ id ∧ id < s0.n := by
  obtain ⟨h1, h2, h3, _⟩ := g.T.ids ops.size (by simp)
  obtain ⟨q1, q2⟩ := h3 j hj id b v hr
  refine ⟨q1, ?_⟩
  rw [g.hs0, holes_n]
  omega

theorem Rg.iduniq (g : Rg E C ops n a0 s s0 cfg ov rc β0 w0 act0) {j j' : Nat} (hj : j < ops.size) (hj' : j' < ops.size) {id : Nat} {b b' : Blk} {v v' : Value} (hr : rc j = .alloc id b v)
    (hr' : rc j' = .alloc id b' v') : j = j' := (g.T.ids ops.size (by simp)).2.2.2 j j' id b v b' v' hj hj' hr hr'

/- what an insertion knows -/
theorem Rg.insOk (g : Rg E C ops n a0 s s0 cfg ov rc β0 w0 act0) {j : Nat} (hj : j < ops.size) {r : Nat} {k u : Value} (hr : rc j = .ins r k u) :
    ∃ kk j0 v, j0 < j ∧ rc j0 = .alloc r (.map kk []) v ∧ kk.has k = true ∧ bit (Region.before ops) j j0 = true ∧ keyNew k (insOf r (recsN rc j)) = true ∧
      opK E.P (cfg j).a.tr (ov j) = some (.ins kk r k u) ∧ guardD ops.toList (cfg j).a.tr (ov j) = some true := by
  have hs := g.stp hj
  rcases hs.did with ⟨_, h1, _⟩ | ⟨hg, k', hk, hd⟩
  · rw [hr] at h1; cases h1
  · cases k' with
    | ins kk r' k0 u0 =>
      obtain ⟨h1, h2, h3, h4, _⟩ := hd
      rw [hr] at h1; cases h1
      rw [g.T.recs j (by simp; omega)] at h2 h4
      obtain ⟨q1, j0, kk', v, q2, q3, q4⟩ := mapRec_spec h2
      obtain ⟨q5, q6⟩ := mem_recsN.1 q2
      have := has_inj q1 q3
      subst this
      exact ⟨kk, j0, v, q5, q6.symm, q1, q4, h4, hk, hg⟩
    | pure v => rw [hr] at hd; cases hd.1
    | read r => rw [hr] at hd; obtain ⟨⟨v, hv⟩, _⟩ := hd; cases hv
    | alloc b m => rw [hr] at hd; cases hd.1
    | eff e b => rw [hr] at hd; obtain ⟨v, m, _, _, hv, _⟩ := hd; cases hv
    | call f args => rw [hr] at hd; obtain ⟨v, m, _, _, hv, _⟩ := hd; cases hv
    | _ => exact hd.elim

/- a temporary at which an operation looks -/
theorem look (g : Rg E C ops n a0 s s0 cfg ov rc β0 w0 act0) (h : DI E C ops.size a0 s s0 cfg ov rc β0 w0 act0 β q X act w)
    (hcl : ∀ i, X i = true → ∀ j, bit (Region.before ops) i j = true → X j = true) {i : Nat} (hi : i < ops.size) (hX : X i = false) (hm : ∀ j, bit (Region.before ops) i j = true → X j = true) {t : Tmp}
    (hread : ∀ j, j < ops.size → j ≠ i → (ov j).dst = some t → (if j < i then bit (Region.before ops) i j else bit (Region.before ops) j i) = true) {u : Value} (hu : (cfg i).a.tr.get t = some u) :
    VRel β u (act.tmps.getD t undef) := by
  obtain ⟨_, _, _, h4⟩ := g.T.tmps i (by simp; omega)
  rcases h4 t u hu with ⟨j, hj, hd, rfl⟩ | ⟨h5, h6⟩
  · have := hread j (by omega) (by omega) hd
    rw [if_pos hj] at this
    exact h.tmX j (by omega) (hm j this) t hd
  · rw [h.tm0 t (fun j hj hx hd => ?_)]
    · exact (g.ac0.tm.get t u h6).mono h.ext.mono
    · have hji : j ≠ i := by rintro rfl; rw [hX] at hx; cases hx
      have := hread j hj hji hd
      by_cases hlt : j < i
      · exact h5 j hlt hd
      · rw [if_neg hlt] at this
        have := hcl j hx i this
        rw [hX] at this; cases this

theorem evs_i (g : Rg E C ops n a0 s s0 cfg ov rc β0 w0 act0) (h : DI E C ops.size a0 s s0 cfg ov rc β0 w0 act0 β q X act w)
    (hcl : ∀ i, X i = true → ∀ j, bit (Region.before ops) i j = true → X j = true) {i : Nat} (hi : i < ops.size) (hX : X i = false) (hm : ∀ j, bit (Region.before ops) i j = true → X j = true) :
    Evs E.P β (cfg i).a.tr act.eval (ov i).op.operands.toList := by
  intro x hx v hv
  cases x with
  | tmp t =>
    refine look g h hcl hi hX hm (fun j hj hji hd => (g.pairs hi hj (Ne.symm hji) hd).2 (.inl ?_)) hv
    simp only [tmpsOf, List.mem_filterMap]
    exact ⟨.tmp t, hx, rfl⟩
  | const c =>
    simp only [evalO] at hv
    split at hv
    · rename_i hs; cases hv; exact scalar_refl _ hs
    · cases hv
  | global gl =>
    simp only [evalO] at hv
    split at hv
    · rename_i hg
      cases hv
      obtain ⟨_, x, h1, h2, h3⟩ := h.ext.rel.glob gl (Nat.le_of_ble_eq_true hg)
      have := VRel.ptr (o := 0) h1
      rw [h2, h3] at this
      exact this
    · cases hv
  | func f =>
    simp only [evalO, Option.some.injEq] at hv
    subst hv
    exact .func rfl rfl (fun i v v' h => by simp at h) (fun i v v' h => by simp at h)

theorem guard_i (g : Rg E C ops n a0 s s0 cfg ov rc β0 w0 act0) (h : DI E C ops.size a0 s s0 cfg ov rc β0 w0 act0 β q X act w)
    (hcl : ∀ i, X i = true → ∀ j, bit (Region.before ops) i j = true → X j = true) {i : Nat} (hi : i < ops.size) (hX : X i = false) (hm : ∀ j, bit (Region.before ops) i j = true → X j = true) {b : Bool}
    (hg : guardD ops.toList (cfg i).a.tr (ov i) = some b) : Region.wanted (ov i) (yielded ops act.tmps) = b := by
  refine guard_rel' (β := β) (tr := (cfg i).a.tr) (fun jg want p d h1 h2 h3 v hv => ?_) hg
  have hjg : jg < ops.size := by
    rcases Nat.lt_or_ge jg ops.size with h | h
    · exact h
    · rw [Array.getElem?_eq_none h] at h2; cases h2
  rw [g.op hjg] at h2
  cases h2
  refine look g h hcl hi hX hm (fun j hj hji hd => (g.pairs hi hj (Ne.symm hji) hd).2 (.inr ⟨want, ?_⟩)) hv
  have : j = jg := by
    by_cases hne : jg = j
    · exact hne.symm
    · exact absurd h3 (g.pairs hjg hj hne hd).1
  rw [this]; exact h1

/- what is put into a temporary -/
theorem tmX_put (g : Rg E C ops n a0 s s0 cfg ov rc β0 w0 act0) (h : DI E C ops.size a0 s s0 cfg ov rc β0 w0 act0 β q X act w) {i : Nat} (hi : i < ops.size) (hX : X i = false) {β' : Bm}
    (hb : ∀ i x, β i = some x → β' i = some x) {v' : Value} (hv : VRel β' (recV (rc i)) v') :
    (act.put (ov i).dst v').tmps.size = a0.nt ∧ (act.put (ov i).dst v').defers = act0.defers ∧
    (∀ j, j < ops.size → (if j = i then true else X j) = true → ∀ d, (ov j).dst = some d → VRel β' (recV (rc j)) ((act.put (ov i).dst v').tmps.getD d undef)) ∧
    (∀ t, (∀ j, j < ops.size → (if j = i then true else X j) = true → (ov j).dst ≠ some t) → (act.put (ov i).dst v').tmps.getD t undef = act0.tmps.getD t undef) := by
  have hget : ∀ t, (ov i).dst ≠ some t → (act.put (ov i).dst v').tmps.getD t undef = act.tmps.getD t undef := by
    intro t ht
    unfold Act.put
    split
    · rename_i d hd
      have hdt : d ≠ t := fun hh => ht (by rw [← hh]; exact hd)
      simp [Array.getD_eq_getD_getElem?, Array.getElem?_setIfInBounds_ne hdt]
    · rfl
  refine ⟨?_, ?_, fun j hj hx d hd => ?_, fun t ht => ?_⟩
  · unfold Act.put; split <;> simp [h.size]
  · unfold Act.put; split <;> exact h.df
  · by_cases hji : j = i
    · subst hji
      have hlt : d < act.tmps.size := by rw [h.size]; exact (g.T.tmps ops.size (by simp)).2.2.1 j hj d hd
      rw [hd]
      simpa [Act.put, Array.getD_eq_getD_getElem?, Array.getElem?_setIfInBounds_self_of_lt hlt] using hv
    · rw [if_neg hji] at hx
      rw [hget d (g.pairs hi hj (Ne.symm hji) hd).1]
      exact (h.tmX j hj hx d hd).mono hb
  · have h1 := ht i hi (by simp)
    rw [hget t h1]
    refine h.tm0 t fun j hj hx => ht j hj ?_
    by_cases hji : j = i
    · rw [if_pos hji]
    · rw [if_neg hji]; exact hx

/- what is laid into a map, and what of it stands under X -/
theorem PB.mono {γ : Bm} {P : Program} {N : Nat} {X X' : Nat → Bool} {id : Nat} {b : Blk} {ob : Obj} (h : PB β P rc N X id b ob) (hb : ∀ i x, β i = some x → γ i = some x)
    (hX : ∀ j, j < N → ∀ k u, rc j = .ins id k u → X' j = X j) : PB γ P rc N X' id b ob := by
  cases b with
  | hole => exact h.elim
  | cells c e l a f =>
    obtain ⟨h1, cc, lo, hi, h2, h3, h4, h5⟩ := h
    exact ⟨h1, cc, lo, hi, h2, h3, fun j v hv => let ⟨v', q1, q2⟩ := h4 j v hv; ⟨v', q1, q2.mono hb⟩, h5⟩
  | map kk es0 =>
    obtain ⟨ces, clk, es, h1, h2, h3⟩ := h
    refine ⟨ces, clk, es, h1, h2.mono hb, fun p => (h3 p).trans ⟨?_, ?_⟩⟩
    · rintro ⟨j, q1, q2, q3⟩; exact ⟨j, q1, by rw [hX j q1 _ _ q3]; exact q2, q3⟩
    · rintro ⟨j, q1, q2, q3⟩; exact ⟨j, q1, by rw [hX j q1 _ _ q3] at q2; exact q2, q3⟩

end
end Go.Dv
end
section
/- A drawn order: the steps. -/
namespace Go.Dv
section
variable {E : Env} {C : Nat → Option Blk} {ops : Array Oper} {n : Nat} {a0 : Ac} {s s0 : St} {cfg : Nat → Cfg} {ov : Nat → Oper} {rc : Nat → Rec} {β0 β : Bm} {w0 w : World} {act0 act : Act}
  {q : Nat} {X : Nat → Bool}

theorem Rg.allocOk (g : Rg E C ops n a0 s s0 cfg ov rc β0 w0 act0) {j : Nat} (hj : j < ops.size) {id : Nat} {b : Blk} {v : Value} (hr : rc j = .alloc id b v) :
    plainB b = true ∧ id = (cfg j).id ∧ ∃ m, v = m.val id ∧ opK E.P (cfg j).a.tr (ov j) = some (.alloc b m) ∧ guardD ops.toList (cfg j).a.tr (ov j) = some true := by
  have hs := g.stp hj
  rcases hs.did with ⟨_, h1, _⟩ | ⟨hg, k', hk, hd⟩
  · rw [hr] at h1; cases h1
  · cases k' with
    | alloc b' m =>
      obtain ⟨h1, h2, h3, _⟩ := hd
      rw [hr] at h1; cases h1
      exact ⟨h3, rfl, m, rfl, hk, hg⟩
    | ins kk r k u => rw [hr] at hd; cases hd.1
    | pure v => rw [hr] at hd; cases hd.1
    | read r => rw [hr] at hd; obtain ⟨⟨v, hv⟩, _⟩ := hd; cases hv
    | eff e b => rw [hr] at hd; obtain ⟨v, m, _, _, hv, _⟩ := hd; cases hv
    | call f args => rw [hr] at hd; obtain ⟨v, m, _, _, hv, _⟩ := hd; cases hv
    | _ => exact hd.elim

theorem Rg.entries (g : Rg E C ops n a0 s s0 cfg ov rc β0 w0 act0) {j0 r : Nat} {kk : Kk} {es0 : List (Value × Value)} {v : Value} (hj0 : j0 < ops.size) (hr : rc j0 = .alloc r (.map kk es0) v) : ∀ i, i ≤ ops.size →
    (∀ p ∈ insOf r (recsN rc i), kk.has p.1 = true) ∧ KDist (insOf r (recsN rc i)) := by
  intro i
  induction i with
  | zero => intro _; exact ⟨fun p hp => by simp [recsN, insOf] at hp, by simp [recsN, insOf, KDist]⟩
  | succ i ih =>
    intro hi
    obtain ⟨i1, i2⟩ := ih (by omega)
    by_cases hins : ∃ k u, rc i = .ins r k u
    · obtain ⟨k, u, hk⟩ := hins
      obtain ⟨kk', j0', v', q1, q2, q3, q4, q5, _⟩ := g.insOk (by omega) hk
      have := g.iduniq hj0 (by omega : j0' < ops.size) hr q2
      subst this
      rw [hr] at q2; cases q2
      have e : insOf r (recsN rc (i + 1)) = (k, u) :: insOf r (recsN rc i) := by
        simp only [recsN, hk, insOf]
        rw [show Nat.beq r r = true from Nat.beq_refl r]
      rw [e]
      refine ⟨fun p hp => ?_, List.pairwise_cons.2 ⟨fun p hp hh => ?_, i2⟩⟩
      · rcases List.mem_cons.1 hp with rfl | hp
        · exact q3
        · exact i1 p hp
      · exact keyNew_spec q3 i1 q5 p hp hh.symm
    · have e : insOf r (recsN rc (i + 1)) = insOf r (recsN rc i) := by
        simp only [recsN]
        cases hq : rc i with
        | ins id' k v =>
          simp only [insOf]
          split
          · rename_i hid
            have hid := Nat.eq_of_beq_eq_true hid
            subst hid
            exact absurd ⟨_, _, hq⟩ hins
          · rfl
        | _ => rfl
      rw [e]; exact ⟨i1, i2⟩

theorem PB.brel (g : Rg E C ops n a0 s s0 cfg ov rc β0 w0 act0) {j id i0 : Nat} {b : Blk} {v : Value} {x : BI} {ob : Obj} (hj : j < ops.size) (hr : rc j = .alloc id b v) (hx : β id = some x) (hd : x.d = 0)
    (hn : x.n = obSize ob) (hw : w.heap[x.b]? = some ob) (h : PB β E.P rc ops.size X id b ob) (hi0 : i0 ≤ ops.size)
    (hall : ∀ j', j' < ops.size → ∀ k u, rc j' = .ins id k u → (X j' = true ↔ j' < i0)) : BRel E.P β w id (blkOf (recsN rc i0) id b) ∧ (blkOf (recsN rc i0) id b).anc = b.anc ∧ blkOf (recsN rc i0) id b ≠ .hole := by
  cases b with
  | hole => exact h.elim
  | cells c e l a f =>
    obtain ⟨h1, cc, lo, hi, rfl, h3, h4, h5⟩ := h
    refine ⟨⟨x, cc, lo, hi, hx, hw, hn, by rw [hd]; simpa using h3, fun k u hu => ?_, fun _ o a b => .inr (h5 o a b)⟩, rfl, by simp [blkOf]⟩
    obtain ⟨v', q1, q2⟩ := h4 k u hu
    exact ⟨v', by rw [hd]; simpa using q1, q2⟩
  | map kk es0 =>
    obtain ⟨ces, clk, es, rfl, h2, h3⟩ := h
    refine ⟨⟨x, ces, clk, hx, hw, ?_⟩, rfl, by simp [blkOf]⟩
    obtain ⟨e1, e2⟩ := g.entries hj hr i0 hi0
    refine h2.same e2 fun p => ?_
    rw [h3, mem_insOf]
    constructor
    · rintro ⟨j', hj'⟩
      obtain ⟨q1, q2⟩ := mem_recsN.1 hj'
      exact ⟨j', by omega, (hall j' (by omega) _ _ q2.symm).2 q1, q2.symm⟩
    · rintro ⟨j', q1, q2, q3⟩
      exact ⟨j', mem_recsN.2 ⟨(hall j' q1 _ _ q3).1 q2, q3.symm⟩⟩

structure Fil (E : Env) (C : Nat → Option Blk) (N : Nat) (S : St) (rc : Nat → Rec) (β : Bm) (w : World) (X : Nat → Bool) (mask i0 : Nat) (F : St) : Prop where
  rel : Rel E.P E.nC C β F w
  n : F.n = S.n
  blk : ∀ i, F.blk i = S.blk i ∨ (S.blk i = some .hole ∧ ∃ j b v, j < N ∧ X j = true ∧ rc j = .alloc i b v ∧ mask.testBit j = true ∧ insIn mask i (recsN rc i0) = true ∧ F.blk i ≠ some .hole)

theorem fil (g : Rg E C ops n a0 s s0 cfg ov rc β0 w0 act0) (h : DI E C ops.size a0 s s0 cfg ov rc β0 w0 act0 β q X act w) {mask i0 : Nat} (hi0 : i0 ≤ ops.size) (hm : ∀ j, j < ops.size → mask.testBit j = true → X j = true)
    (hins : ∀ j id b v, j < i0 → rc j = .alloc id b v → mask.testBit j = true → ∀ j', j' < ops.size → ∀ k u, rc j' = .ins id k u → j' < i0) :
    Fil E C ops.size (cfg q).s rc β w X mask i0 (fillS (recsN rc i0) mask (recsN rc i0) (cfg q).s) := by
  have key := fill_all (β := β) (w := w) (P := E.P) (nC := E.nC) (C := C) (recsN rc i0) mask (recsN rc i0) (cfg q).s h.ext.rel
    (fun j id b v hmem hb hi hh => by
      obtain ⟨q1, q2⟩ := mem_recsN.1 hmem
      have hj : j < ops.size := by omega
      obtain ⟨x, ob, p1, p2, p3, p4, p5, p6, p7, p8⟩ := h.priv j hj (hm j hj hb) id b v q2.symm hh
      have hall : ∀ j', j' < ops.size → ∀ k u, rc j' = .ins id k u → (X j' = true ↔ j' < i0) := by
        intro j' hj' k u hr
        have hlt := hins j id b v q1 q2.symm hb j' hj' k u hr
        exact ⟨fun _ => hlt, fun _ => hm j' hj' (insIn_spec hi j' k u (mem_recsN.2 ⟨hlt, hr.symm⟩))⟩
      obtain ⟨b1, b2, b3⟩ := PB.brel g hj q2.symm p1 p3 p4 p5 p6 hi0 hall
      have hle := g.r0.le
      have hid := (g.idlt hj q2.symm).1
      exact ⟨x, p1, b1, by omega, by rw [b2]; exact p7, b3, p8⟩)
    (fun j id b v j' id' b' v' x x' a1 a2 a3 a4 a5 a6 a7 a8 a9 => by
      obtain ⟨q1, q2⟩ := mem_recsN.1 a1
      obtain ⟨r1, r2⟩ := mem_recsN.1 a4
      exact h.dist j j' (by omega) (by omega) (hm j (by omega) a2) (hm j' (by omega) a5) id b v id' b' v' x x' q2.symm r2.symm a7 a3 a6 a8 a9)
  refine ⟨key.1, key.2.1, fun i => (key.2.2 i).imp id ?_⟩
  rintro ⟨k1, j, b, v, k2, k3, k4, k5, k6⟩
  obtain ⟨q1, q2⟩ := mem_recsN.1 k2
  refine ⟨k1, j, b, v, by omega, hm j (by omega) k3, q2.symm, k3, k4, ?_⟩
  rw [k5]
  intro hh
  exact k6 (Option.some.inj hh)

theorem Fil.ext (g : Rg E C ops n a0 s s0 cfg ov rc β0 w0 act0) (h : DI E C ops.size a0 s s0 cfg ov rc β0 w0 act0 β q X act w) {mask i0 : Nat} {F : St}
    (hf : Fil E C ops.size (cfg q).s rc β w X mask i0 F) : Ext E.P E.nC C β0 s w0 β F w :=
  { mono := h.ext.mono, rel := hf.rel, size := h.ext.size, keep := h.ext.keep, os := h.ext.os, output := h.ext.output, tape := h.ext.tape
    grow := by rw [hf.n]; exact h.ext.grow
    new := h.ext.new
    holes := fun i hi => by
      rcases hf.blk i with q1 | ⟨_, j, b, v, hj, _, hr, _⟩
      · rw [q1]; exact h.ext.holes i hi
      · have h1 := (g.idlt hj hr).1
        have h2 := g.r0.id_lt hi
        omega
    unhole := fun i hi hh => by
      rcases hf.blk i with q1 | ⟨_, j, b, v, hj, _, hr, _⟩
      · rw [q1] at hh; exact h.ext.unhole i hi hh
      · have h1 := (g.idlt hj hr).1
        omega
    rangeL := fun i bi x hb hl hx => by
      rcases hf.blk i with q1 | ⟨q0, j, b, v, hj, hX, hr, _⟩
      · rw [q1] at hb; exact h.ext.rangeL i bi x hb hl hx
      · obtain ⟨x', ob, p1, p2, _⟩ := h.priv j hj hX i b v hr q0
        rw [p1] at hx; cases hx
        exact .inl p2
    rangeO := fun i bi x hb hl hx => by
      rcases hf.blk i with q1 | ⟨q0, j, b, v, hj, hX, hr, _⟩
      · rw [q1] at hb; exact h.ext.rangeO i bi x hb hl hx
      · obtain ⟨x', ob, p1, p2, _⟩ := h.priv j hj hX i b v hr q0
        rw [p1] at hx; cases hx
        exact .inl p2 }

/- a step that leaves memory -/
theorem still_step (g : Rg E C ops n a0 s s0 cfg ov rc β0 w0 act0) (h : DI E C ops.size a0 s s0 cfg ov rc β0 w0 act0 β q X act w) {i : Nat} (hi : i < ops.size) (hX : X i = false) {v' : Value}
    (hv : VRel β (recV (rc i)) v') (h1 : ¬ IsE rc i) (h2 : ∀ id b v, rc i ≠ .alloc id b v) (h3 : ∀ id k v, rc i ≠ .ins id k v) :
    DI E C ops.size a0 s s0 cfg ov rc β0 w0 act0 β q (fun j => if j = i then true else X j) (act.put (ov i).dst v') w := by
  obtain ⟨t1, t2, t3, t4⟩ := tmX_put g h hi hX (fun _ _ h => h) hv
  have up : ∀ {j}, j ≠ i → (if j = i then true else X j) = true → X j = true := fun hj hx => by rw [if_neg hj] at hx; exact hx
  exact
    { ext := h.ext, qN := h.qN, grow := h.grow, size := t1, df := t2, tmX := t3, tm0 := t4
      eff := fun j hj he => by
        have hji : j ≠ i := by rintro rfl; exact h1 he
        simp only [if_neg hji]; exact h.eff j hj he
      unal := fun j hj hx id b v hr => by
        have hji : j ≠ i := by rintro rfl; exact h2 _ _ _ hr
        simp only [if_neg hji] at hx; exact h.unal j hj hx id b v hr
      priv := fun j hj hx id b v hr hh => by
        have hji : j ≠ i := by rintro rfl; exact h2 _ _ _ hr
        obtain ⟨x, ob, p1, p2, p3, p4, p5, p6, p7, p8⟩ := h.priv j hj (up hji hx) id b v hr hh
        refine ⟨x, ob, p1, p2, p3, p4, p5, p6.mono (fun _ _ h => h) (fun j' hj' k u hr' => ?_), p7, p8⟩
        have : j' ≠ i := by rintro rfl; exact h3 _ _ _ hr'
        simp only [if_neg this]
      full := fun j hj id b v hr hh j' hj' k u hr' => by
        have := h.full j hj id b v hr hh j' hj' k u hr'
        show (if j' = i then true else X j') = true
        split
        · rfl
        · exact this
      dist := fun j j' hj hj' hx hx' id b v id' b' v' x x' hr hr' hne => by
        have a1 : j ≠ i := by rintro rfl; exact h2 _ _ _ hr
        have a2 : j' ≠ i := by rintro rfl; exact h2 _ _ _ hr'
        exact h.dist j j' hj hj' (up a1 hx) (up a2 hx') id b v id' b' v' x x' hr hr' hne }

/- a new block -/
theorem alloc_step (g : Rg E C ops n a0 s s0 cfg ov rc β0 w0 act0) (h : DI E C ops.size a0 s s0 cfg ov rc β0 w0 act0 β q X act w)
    (hcl : ∀ i, X i = true → ∀ j, bit (Region.before ops) i j = true → X j = true) {i : Nat} (hi : i < ops.size) (hX : X i = false) {id : Nat} {b : Blk} {m : Mk} {ob : Obj}
    (hr : rc i = .alloc id b (m.val id)) (hanc : b.anc = none) (hmk : ∀ (γ : Bm) (i : Nat) (x : BI), γ i = some x → x.d = 0 → VRel γ (m.val i) (m.val x.b)) (hob : NewB E.P β b ob) (hpl : plainB b = true) :
    DI E C ops.size a0 s s0 cfg ov rc β0 w0 act0 (addB β id ⟨w.heap.size, 0, obSize ob⟩) q (fun j => if j = i then true else X j) (act.put (ov i).dst (m.val w.heap.size)) { w with heap := w.heap.push ob } := by
  obtain ⟨hn, hh⟩ := h.unal i hi hX id b _ hr
  have mono := addB_mono (x := ⟨w.heap.size, 0, obSize ob⟩) hn
  have hidn : s.n ≤ id := (g.idlt hi hr).1
  have ad : ∀ j y, j ≠ id → addB β id ⟨w.heap.size, 0, obSize ob⟩ j = some y → β j = some y := fun j y hj hy => by simpa [addB, hj] using hy
  have hval : VRel (addB β id ⟨w.heap.size, 0, obSize ob⟩) (recV (rc i)) (m.val w.heap.size) := by
    rw [hr]; exact hmk _ id _ (addB_same _ _) rfl
  obtain ⟨t1, t2, t3, t4⟩ := tmX_put g h hi hX mono hval
  have up : ∀ {j}, j ≠ i → (if j = i then true else X j) = true → X j = true := fun hj hx => by rw [if_neg hj] at hx; exact hx
  have own_ne : ∀ k bi, (cfg q).s.blk k = some bi → bi.own = true → k ≠ id := by rintro k bi hb ho rfl; rw [hh] at hb; cases hb; cases ho
  have live_ne : ∀ k bi, (cfg q).s.blk k = some bi → bi.live = true → k ≠ id := by rintro k bi hb ho rfl; rw [hh] at hb; cases hb; cases ho
  have hgp : ∀ (k : Nat) (o : Obj), w.heap[k]? = some o → (w.heap.push ob)[k]? = some o := fun k o hk => by
    rw [Array.getElem?_push, if_neg (Nat.ne_of_lt (lt_of_get hk))]; exact hk
  have ext : Ext E.P E.nC C β0 s w0 (addB β id ⟨w.heap.size, 0, obSize ob⟩) (cfg q).s { w with heap := w.heap.push ob } :=
    { mono := fun i x hx => mono _ _ (h.ext.mono i x hx), rel := hole_rel h.ext.rel hh hn rfl, size := by simp; have := h.ext.size; omega
      keep := fun k hk hne => by
        have := h.ext.size
        simp only [Array.getElem?_push]; rw [if_neg (by omega)]; exact h.ext.keep k hk hne
      os := h.ext.os, output := h.ext.output, tape := h.ext.tape, grow := h.ext.grow, holes := h.ext.holes, unhole := h.ext.unhole
      new := fun k hk => by rw [← h.ext.new k hk]; simp only [addB]; rw [if_neg (by omega)]
      rangeL := fun k bi y hb hl hy => h.ext.rangeL k bi y hb hl (ad k y (live_ne k bi hb hl) hy)
      rangeO := fun k bi y hb hl hy => h.ext.rangeO k bi y hb hl (ad k y (own_ne k bi hb hl) hy) }
  -- no entry of this map stands under X
  have noins : ∀ j', j' < ops.size → ∀ k u, rc j' = .ins id k u → X j' = false ∧ j' ≠ i := by
    intro j' hj' k u hr'
    obtain ⟨kk, j0, v, q1, q2, _, q4, _⟩ := g.insOk hj' hr'
    have := g.iduniq hi (by omega : j0 < ops.size) hr q2
    subst this
    refine ⟨?_, by omega⟩
    cases hx : X j' with
    | false => rfl
    | true => have := hcl j' hx _ q4; rw [hX] at this; cases this
  exact
    { ext, qN := h.qN, grow := h.grow, size := t1, df := t2, tmX := t3, tm0 := t4
      eff := fun j hj he => by
        have hji : j ≠ i := by rintro rfl; obtain ⟨v, hv⟩ := he; rw [hr] at hv; cases hv
        simp only [if_neg hji]; exact h.eff j hj he
      unal := fun j hj hx id' b' v' hr' => by
        have hji : j ≠ i := by rintro rfl; simp at hx
        simp only [if_neg hji] at hx
        obtain ⟨q1, q2⟩ := h.unal j hj hx id' b' v' hr'
        refine ⟨?_, q2⟩
        simp only [addB]
        rw [if_neg, q1]
        rintro rfl
        exact hji (g.iduniq hj hi hr' hr)
      priv := fun j hj hx id' b' v' hr' hh' => by
        by_cases hji : j = i
        · subst hji
          rw [hr] at hr'; cases hr'
          refine ⟨⟨w.heap.size, 0, obSize ob⟩, ob, addB_same _ _, h.ext.size, rfl, rfl, by simp, ?_, hanc, fun k bi y hb ho hy => ?_⟩
          · cases b with
            | hole => exact hob.elim
            | cells c e l a f =>
              obtain ⟨h1, cc, lo, hi, h2, h3, h4, h5⟩ := hob
              exact ⟨h1, cc, lo, hi, h2, h3, fun j v hv => let ⟨v', q1, q2⟩ := h4 j v hv; ⟨v', q1, q2.mono mono⟩, h5⟩
            | map kk es0 =>
              cases es0 with
              | cons e es0 => simp [plainB] at hpl
              | nil =>
                obtain ⟨ces, clk, h1, h2⟩ := hob
                refine ⟨ces, clk, [], h1, h2.mono mono, fun p => ⟨fun hp => (by cases hp), ?_⟩⟩
                rintro ⟨j', r1, r2, r3⟩
                obtain ⟨s1, s2⟩ := noins j' r1 _ _ r3
                simp only [if_neg s2] at r2
                rw [s1] at r2; cases r2
          · have := h.ext.rel.bnd k y (ad k y (own_ne k bi hb ho) hy)
            show y.b ≠ w.heap.size
            omega
        · obtain ⟨x, ob', p1, p2, p3, p4, p5, p6, p7, p8⟩ := h.priv j hj (up hji hx) id' b' v' hr' hh'
          refine ⟨x, ob', mono _ _ p1, p2, p3, p4, hgp _ _ p5, p6.mono mono (fun j' hj' k u hr'' => ?_), p7, fun k bi y hb ho hy => p8 k bi y hb ho (ad k y (own_ne k bi hb ho) hy)⟩
          have : j' ≠ i := by rintro rfl; rw [hr] at hr''; cases hr''
          simp only [if_neg this]
      full := fun j hj id' b' v' hr' hh' j' hj' k u hr'' => by
        have := h.full j hj id' b' v' hr' hh' j' hj' k u hr''
        show (if j' = i then true else X j') = true
        split
        · rfl
        · exact this
      dist := fun j j' hj hj' hx hx' id1 b1 v1 id2 b2 v2 x x' hr1 hr2 hne hh1 hh2 hx1 hx2 => by
        by_cases a1 : id1 = id
        · subst a1
          rw [addB_same] at hx1; cases hx1
          have := h.ext.rel.bnd _ _ (ad id2 x' (Ne.symm hne) hx2)
          show w.heap.size ≠ x'.b
          omega
        · by_cases a2 : id2 = id
          · subst a2
            rw [addB_same] at hx2; cases hx2
            have := h.ext.rel.bnd _ _ (ad id1 x a1 hx1)
            show x.b ≠ w.heap.size
            omega
          · have b1' : j ≠ i := by rintro rfl; rw [hr] at hr1; cases hr1; exact a1 rfl
            have b2' : j' ≠ i := by rintro rfl; rw [hr] at hr2; cases hr2; exact a2 rfl
            exact h.dist j j' hj hj' (up b1' hx) (up b2' hx') id1 b1 v1 id2 b2 v2 x x' hr1 hr2 hne hh1 hh2 (ad id1 x a1 hx1) (ad id2 x' a2 hx2) }

end
end Go.Dv
end
