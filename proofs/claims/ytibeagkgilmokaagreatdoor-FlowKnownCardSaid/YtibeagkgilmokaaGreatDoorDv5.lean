import Derived.Test.YtibeagkgilmokaaGreatDoorDv1
import Derived.Test.YtibeagkgilmokaaGreatDoorDv4
section
/- A faster form of the evaluator, for the kernel: each operation a definition of its own; equal to DvB's. -/
namespace Go.Dv


/- faster lookups: rows, trees -/
noncomputable def nthF {α : Type} (l : List α) (k : Nat) : Option α :=
  List.rec (motive := fun _ => Nat → Option α) (fun _ => none) (fun x _ ih k => Nat.rec (motive := fun _ => Option α) (some x) (fun k _ => ih k) k) l k
theorem nthF_eq {α : Type} (l : List α) (k : Nat) : nthF l k = l[k]? := by
  induction l generalizing k with
  | nil => rfl
  | cons x l ih => cases k with
    | zero => rfl
    | succ k => exact ih k
noncomputable def infF (P : Program) (t : TypeId) : Option TypeInfo := match nthF P.types.toList t with
  | some i => some i
  | none => P.info? t
theorem infF_eq (P : Program) (t : TypeId) : infF P t = P.info? t := by
  unfold infF
  rw [nthF_eq, Array.getElem?_toList]
  cases h : P.types[t]? with
  | none => rfl
  | some i =>
    have hl : t < P.types.size := by
      rcases Nat.lt_or_ge t P.types.size with h1 | h1
      · exact h1
      · rw [Array.getElem?_eq_none h1] at h; cases h
    show some i = Tables.info? _ _
    unfold Tables.info?
    rw [if_pos hl, h]
noncomputable def undF (P : Program) (t : TypeId) : Option TypeDesc :=
  match infF P t with
  | some i => match i.desc with
    | .named _ u => match infF P u with | some j => some j.desc | none => none
    | d => some d
  | none => none
theorem undF_eq (P : Program) (t : TypeId) : undF P t = P.underlying t := by
  unfold undF Program.underlying
  rw [infF_eq]
  cases P.info? t with
  | none => rfl
  | some i =>
    obtain ⟨d⟩ := i
    cases d <;> first | rfl | (simp only [infF_eq]; cases P.info? _ <;> rfl)
noncomputable def fnF (P : Program) (f : FuncId) : Option Func := nthF P.funcs.toList f
theorem fnF_eq (P : Program) (f : FuncId) : fnF P f = P.funcs[f]? := by
  unfold fnF; rw [nthF_eq, Array.getElem?_toList]
noncomputable def Tr.getF (t : Tr) (k : Nat) : Option Value :=
  Tr.rec (motive := fun _ => Nat → Option Value) (fun _ => none)
    (fun _ v _ gl gr k => Bool.rec (motive := fun _ => Option Value) (Bool.rec (motive := fun _ => Option Value) (gl (Nat.div (Nat.sub k 1) 2)) (gr (Nat.div (Nat.sub k 1) 2)) (Nat.beq (Nat.mod k 2) 0)) v (Nat.beq k 0)) t k
theorem Tr.getF_eq (t : Tr) (k : Nat) : t.getF k = t.get k := by
  induction t generalizing k with
  | leaf => rfl
  | node l v r il ir =>
    rw [Tr.get]
    show Bool.rec (motive := fun _ => Option Value) (Bool.rec (motive := fun _ => Option Value) (l.getF (Nat.div (Nat.sub k 1) 2)) (r.getF (Nat.div (Nat.sub k 1) 2)) (Nat.beq (Nat.mod k 2) 0)) v (Nat.beq k 0) = _
    rw [il, ir]
    cases Nat.beq k 0 <;> cases Nat.beq (Nat.mod k 2) 0 <;> rfl
noncomputable def Tr.setF (t : Tr) (k : Nat) (x : Option Value) : Tr :=
  Tr.rec (motive := fun _ => Nat → Tr) (fun _ => .leaf)
    (fun l v r sl sr k => Bool.rec (motive := fun _ => Tr) (Bool.rec (motive := fun _ => Tr) (.node (sl (Nat.div (Nat.sub k 1) 2)) v r) (.node l v (sr (Nat.div (Nat.sub k 1) 2))) (Nat.beq (Nat.mod k 2) 0)) (.node l x r) (Nat.beq k 0)) t k
theorem Tr.setF_eq (t : Tr) (k : Nat) (x : Option Value) : t.setF k x = t.set k x := by
  induction t generalizing k with
  | leaf => rfl
  | node l v r il ir =>
    rw [Tr.set]
    show Bool.rec (motive := fun _ => Tr) (Bool.rec (motive := fun _ => Tr) (.node (l.setF (Nat.div (Nat.sub k 1) 2) x) v r) (.node l v (r.setF (Nat.div (Nat.sub k 1) 2) x)) (Nat.beq (Nat.mod k 2) 0)) (.node l x r) (Nat.beq k 0) = _
    rw [il, ir]
    cases Nat.beq k 0 <;> cases Nat.beq (Nat.mod k 2) 0 <;> rfl
noncomputable def sizeF (P : Program) (t : TypeId) : Option Nat := match infF P t with | some i => some i.size | none => none
theorem sizeF_eq (P : Program) (t : TypeId) : sizeF P t = sizeD P t := by unfold sizeF sizeD; rw [infF_eq]; rfl
noncomputable def zeroF (P : Program) (t : TypeId) : Option Value := match infF P t with
  | some i => match i.zero with
    | some z => match scalar z with | true => some z | false => none
    | none => none
  | none => none
theorem zeroF_eq (P : Program) (t : TypeId) : zeroF P t = zeroD P t := by unfold zeroF zeroD; rw [infF_eq]; rfl
noncomputable def elemF (P : Program) (t : TypeId) : Option (Nat × List Value) := match infF P t with
  | some i => match i.zero with
    | some z => match scalar z, Nat.beq i.size z.cells.toList.length, Nat.ble 1 i.size, Nat.ble i.bytes room, allCells z.cells.toList with
      | true, true, true, true, true => some (i.size, z.cells.toList)
      | _, _, _, _, _ => none
    | none => none
  | none => none
theorem elemF_eq (P : Program) (t : TypeId) : elemF P t = elemD P t := by unfold elemF elemD; rw [infF_eq]; rfl
noncomputable def kkMapF (P : Program) (t : TypeId) : Option Kk := match undF P t with
  | some (.map key _) => kkOf (undF P key)
  | _ => none
theorem kkMapF_eq (P : Program) (t : TypeId) : kkMapF P t = kkMap P t := by unfold kkMapF kkMap; simp only [undF_eq]; rfl
noncomputable def evalOF (P : Program) (tr : Tr) (o : Operand) : Option Value := match o with
  | .tmp t => tr.getF t
  | .const v => match scalar v with | true => some v | false => none
  | .global g => match Nat.blt g P.globals.size with | true => some (.pointer (some ⟨g, 0, none⟩)) | false => none
  | .func f => some (.func (.func f) #[] #[])
theorem evalOF_eq (P : Program) (tr : Tr) (o : Operand) : evalOF P tr o = evalO P tr o := by
  cases o <;> first | rfl | exact Tr.getF_eq _ _
noncomputable def evalLF (P : Program) (tr : Tr) : List Operand → Option (List Value)
  | [] => some []
  | x :: xs => match evalOF P tr x with
    | none => none
    | some v => match evalLF P tr xs with | none => none | some vs => some (v :: vs)
theorem evalLF_eq (P : Program) (tr : Tr) (l : List Operand) : evalLF P tr l = evalL P tr l := by
  induction l with
  | nil => rfl
  | cons x l ih => rw [evalLF, evalL, ih, evalOF_eq]; rfl
noncomputable def partsF (P : Program) (tr : Tr) : List (Nat × Operand) → Option (List (Nat × Value))
  | [] => some []
  | (i, x) :: xs => match evalOF P tr x with
    | none => none
    | some v => match partsF P tr xs with | none => none | some vs => some ((i, v) :: vs)
theorem partsF_eq (P : Program) (tr : Tr) (l : List (Nat × Operand)) : partsF P tr l = partsD P tr l := by
  induction l with
  | nil => rfl
  | cons x l ih => obtain ⟨i, x⟩ := x; rw [partsF, partsD, ih, evalOF_eq]; rfl
noncomputable def optOF (P : Program) (tr : Tr) (o : Option Operand) : Option (Option Value) := match o with
  | none => some none
  | some x => match evalOF P tr x with | none => none | some v => some (some v)
theorem optOF_eq (P : Program) (tr : Tr) (o : Option Operand) : optOF P tr o = optO P tr o := by
  cases o with
  | none => rfl
  | some x => unfold optOF optO; simp only [evalOF_eq]; rfl
noncomputable def szsF (P : Program) : List Field → Bool
  | [] => true
  | f :: fs => match sizeF P f.type with | some _ => szsF P fs | none => false
theorem szsF_eq (P : Program) (l : List Field) : szsF P l = szsOk P l := by
  induction l with
  | nil => rfl
  | cons f l ih => rw [szsF, szsOk, ih, sizeF_eq]; rfl

noncomputable def bf_len (P : Program) (ats : List TypeId) (args : List Value) : Option K :=
  match args with
  | [x] => match ats with
    | [t] => match undF P t, x with
      | some .string, .string x => fNat x.size fun n => some (.pure (goInt n))
      | some (.array n _), _ => some (.pure (goInt n))
      | some (.slice _), .slice _ n _ => fNat n fun n => some (.pure (goInt n))
      | some (.map _ _), .map none => some (.pure (goInt 0))
      | some (.map _ _), .map (some r) => some (.read (.mlen r))
      | _, _ => none
    | _ => none
  | _ => none

noncomputable def bf_cap (P : Program) (ats : List TypeId) (args : List Value) : Option K :=
  match args with
  | [.slice _ _ c] => match ats with
    | [t] => match undF P t with
      | some (.slice _) => match Nat.ble big c with | true => none | false => some (.pure (goInt c))
      | _ => none
    | _ => none
  | _ => none

noncomputable def bf_min (_P : Program) (_ats : List TypeId) (args : List Value) : Option K :=
  match args with
  | [.int k a, .int _ b] => kV (vInt k (if b < a then b else a))
  | _ => none

noncomputable def bf_max (_P : Program) (_ats : List TypeId) (args : List Value) : Option K :=
  match args with
  | [.int k a, .int _ b] => kV (vInt k (if b > a then b else a))
  | _ => none

noncomputable def bf_append (P : Program) (ats : List TypeId) (args : List Value) : Option K :=
  match args with
  | [.slice base len cap, x] => 
    match ats with
    | [st, xt] =>
      match undF P st with
      | some (.slice elem) =>
        match elemF P elem, undF P xt with
        | some (size, z), some (.int _) =>
          match asNatI x with
          | some m => fNat m fun m => match Nat.ble m room with
            | true => some (.eff (.append elem size base len cap x (some (m, z))) false)
            | false => none
          | none => none
        | some (size, _), some (.slice _) | some (size, _), some .string => some (.eff (.append elem size base len cap x none) false)
        | _, _ => none
      | _ => none
    | _ => none
  | _ => none

noncomputable def bf_copy (P : Program) (ats : List TypeId) (args : List Value) : Option K :=
  match args with
  | [.slice base dl _, x] => 
    match ats with
    | [st, _] =>
      match undF P st, lenD x with
      | some (.slice elem), some m => match sizeF P elem with
        | some size => fNat (match Nat.ble m dl with | true => m | false => dl) fun n => some (.eff (.copy size base n x) false)
        | none => none
      | _, _ => none
    | _ => none
  | _ => none

noncomputable def bf_clear (P : Program) (ats : List TypeId) (args : List Value) : Option K :=
  match args with
  | [.slice base n _] => 
    match ats with
    | [st] => match undF P st, Nat.ble n room with
      | some (.slice elem), true => match elemF P elem with
        | some (_, z) => match base with
          | none => match Nat.beq n 0 with | true => some (.eff (.clear none []) false) | false => none
          | some a => some (.eff (.clear (some a) (repZ z n)) false)
        | none => none
      | _, _ => none
    | _ => none
  | _ => none

noncomputable def bf_delete (P : Program) (ats : List TypeId) (args : List Value) : Option K :=
  match args with
  | [.map r, k] => match ats with
    | [t, _] => match kkMapF P t with
      | some kk => some (.eff (.mdel kk r k) false)
      | none => none
    | _ => none
  | _ => none

noncomputable def bf_recover (_P : Program) (_ats : List TypeId) (args : List Value) : Option K :=
  match args with
  | [] => some .recover
  | _ => none

noncomputable def bf_unsafeString (P : Program) (ats : List TypeId) (args : List Value) : Option K :=
  match args with
  | [.pointer p, .int _ (.ofNat n)] => match ats with
    | [t, _] => match undF P t with
      | some (.pointer e) => match undF P e, sizeF P e with
        | some (.int .u8), some 1 => fNat n fun n => match Nat.beq n 0, p with
          | true, _ => some (.pure (.string .empty))
          | false, some ⟨i, off, none⟩ => match Nat.ble n room with
            | true => some (.eff (.ustr e i off n) false)
            | false => none
          | _, _ => none
        | _, _ => none
      | _ => none
    | _ => none
  | _ => none

noncomputable def builtinF (P : Program) (b : Builtin) (ats : List TypeId) (args : List Value) : Option K :=
  match b with
  | .len => bf_len P ats args
  | .cap => bf_cap P ats args
  | .min => bf_min P ats args
  | .max => bf_max P ats args
  | .append => bf_append P ats args
  | .copy => bf_copy P ats args
  | .clear => bf_clear P ats args
  | .delete => bf_delete P ats args
  | .recover => bf_recover P ats args
  | .unsafeString => bf_unsafeString P ats args
  | _ => none

noncomputable def kf_move (P : Program) (tr : Tr) (x : Operand) : Option K :=
  kV (evalOF P tr x)

noncomputable def kf_pick (P : Program) (tr : Tr) (c a b : Operand) : Option K :=
  match evalOF P tr c with
    | some (.bool true) => kV (evalOF P tr a)
    | some (.bool false) => kV (evalOF P tr b)
    | _ => none

noncomputable def kf_binOp (P : Program) (tr : Tr) (op : BinOp) (t : TypeId) (x y : Operand) : Option K :=
  match evalOF P tr x, evalOF P tr y with
    | some a, some b => kV (binD P op t x y a b)
    | _, _ => none

noncomputable def kf_unOp (P : Program) (tr : Tr) (op : UnOp) (x : Operand) : Option K :=
  match evalOF P tr x with
    | some v => match scalar v with
      | true => kV (vForce (pureRun P (Op.unary op v)))
      | false => none
    | none => none

noncomputable def kf_load (P : Program) (tr : Tr) (t : TypeId) (x : Operand) : Option K :=
  match evalOF P tr x with
    | some (.pointer (some ⟨i, off, none⟩)) => match sizeF P t, undF P t with
      | some n, some d => match isAggD (some d) with
        | true => some (.read (.load i off n true))
        | false => some (.read (.load i off 1 false))
      | _, _ => none
    | _ => none

noncomputable def kf_store (P : Program) (tr : Tr) (t : TypeId) (x y : Operand) : Option K :=
  match evalOF P tr x, evalOF P tr y with
    | some (.pointer (some ⟨i, off, none⟩)), some v =>
      match sizeF P t with
      | some n => match Nat.beq v.cells.toList.length n with
        | true => some (.eff (.store i off v.cells.toList) true)
        | false => none
      | none => none
    | _, _ => none

noncomputable def kf_fieldAddr (P : Program) (tr : Tr) (t : TypeId) (x : Operand) (f : Nat) : Option K :=
  match evalOF P tr x, undF P t with
    | some (.pointer (some ⟨i, off, none⟩)), some (.struct fs) => match fldD fs f with
      | some fd => match sizeF P fd.type with
        | some (_ + 1) => fNat (Nat.add off fd.offset) fun o => some (.pure (.pointer (some ⟨i, o, none⟩)))
        | _ => none
      | none => none
    | _, _ => none

noncomputable def kf_nilCheck (P : Program) (tr : Tr) (x : Operand) : Option K :=
  match evalOF P tr x with
    | some (.pointer (some a)) => some (.pure (.pointer (some a)))
    | some (.func (.func f) a b) => some (.pure (.func (.func f) a b))
    | some (.iface t v) => some (.pure (.iface t v))
    | _ => none

noncomputable def kf_indexAddr (P : Program) (tr : Tr) (t : TypeId) (x ix : Operand) : Option K :=
  match evalOF P tr x, evalOF P tr ix with
    | some b, some (.int _ (.ofNat n)) => match undF P t, b with
      | some (.array len elem), .pointer (some ⟨i, off, none⟩) => match Nat.blt n len, sizeF P elem with
        | true, some sz => fNat (Nat.add off (Nat.mul n sz)) fun o => some (.pure (.pointer (some ⟨i, o, none⟩)))
        | _, _ => none
      | some (.slice elem), .slice (some ⟨i, off, none⟩) len _ => match Nat.blt n len, sizeF P elem with
        | true, some sz => fNat (Nat.add off (Nat.mul n sz)) fun o => some (.pure (.pointer (some ⟨i, o, none⟩)))
        | _, _ => none
      | _, _ => none
    | _, _ => none

noncomputable def kf_index (P : Program) (tr : Tr) (t : TypeId) (x ix : Operand) : Option K :=
  match evalOF P tr x, evalOF P tr ix with
    | some b, some (.int _ (.ofNat n)) => match undF P t, b with
      | some (.array len elem), .agg ⟨cs⟩ => match Nat.blt n len, sizeF P elem, undF P elem with
        | true, some sz, some d => match isAggD (some d) with
          | true => some (.pure (.agg ⟨slc cs (Nat.mul n sz) sz⟩))
          | false => kV (cs[Nat.mul n sz]?)
        | _, _, _ => none
      | some .string, .string b => match b.data.toList[n]? with
        | some c => kV (vInt .u8 c.toNat)
        | none => none
      | _, _ => none
    | _, _ => none

noncomputable def kf_field (P : Program) (tr : Tr) (t : TypeId) (x : Operand) (f : Nat) : Option K :=
  match evalOF P tr x, undF P t with
    | some (.agg ⟨cs⟩), some (.struct fs) => match fldD fs f with
      | some fd => match undF P fd.type, sizeF P fd.type with
        | some d, some sz => match isAggD (some d) with
          | true => some (.pure (.agg ⟨slc cs fd.offset sz⟩))
          | false => kV (cs[fd.offset]?)
        | _, _ => none
      | none => none
    | _, _ => none

noncomputable def kf_extract (P : Program) (tr : Tr) (x : Operand) (i : Nat) : Option K :=
  match evalOF P tr x with
    | some (.tuple ⟨vs⟩) => kV (vs[i]?)
    | _ => none

noncomputable def kf_alloc (P : Program) (_tr : Tr) (t : TypeId) : Option K :=
  match zeroF P t with
    | some z => some (.alloc (.cells z.cells.toList t true none 0) .ptr)
    | none => none

noncomputable def kf_box (P : Program) (tr : Tr) (t : TypeId) (x : Operand) : Option K :=
  match evalOF P tr x, sizeF P t with
    | some v, some _ => some (.alloc (.cells v.cells.toList t true none 0) .ptr)
    | _, _ => none

noncomputable def kf_build (P : Program) (tr : Tr) (t : TypeId) (parts : Array (Nat × Operand)) : Option K :=
  match zeroF P t, partsF P tr parts.toList with
    | some z, some ps => match undF P t with
      | some (.struct fs) => match szsF P fs.toList, fillD (fun i => match fldD fs i with | some f => (match sizeF P f.type with | some sz => some (f.offset, sz) | none => none) | none => none) z.cells.toList ps with
        | true, some cs => some (.pure (.agg ⟨cs⟩))
        | _, _ => none
      | some (.array _ elem) => match sizeF P elem with
        | some sz => match fillD (fun i => some (Nat.mul i sz, sz)) z.cells.toList ps with
          | some cs => some (.pure (.agg ⟨cs⟩))
          | none => none
        | none => none
      | _ => none
    | _, _ => none

noncomputable def kf_buildSlice (P : Program) (tr : Tr) (t : TypeId) (len : Nat) (parts : Array (Nat × Operand)) : Option K :=
  match undF P t, partsF P tr parts.toList with
    | some (.slice elem), some ps => match elemF P elem with
      | some (sz, z) => match Nat.ble (Nat.mul len sz) room with
        | true => match fillD (fun i => some (Nat.mul i sz, sz)) (repZ z len) ps with
          | some cs => some (.alloc (.cells cs elem true none 0) (.slc len len))
          | none => none
        | false => none
      | none => none
    | _, _ => none

noncomputable def kf_makeSlice (P : Program) (tr : Tr) (t : TypeId) (l c : Operand) : Option K :=
  match undF P t, evalOF P tr l, evalOF P tr c with
    | some (.slice elem), some (.int _ (.ofNat l)), some (.int _ (.ofNat c)) =>
      fNat l fun l => fNat c fun c =>
      match elemF P elem, Nat.ble l c, Nat.ble c room with
      | some (_, z), true, true => some (.alloc (.cells (repZ z c) elem true none 0) (.slc l c))
      | _, _, _ => none
    | _, _, _ => none

noncomputable def kf_convert (P : Program) (tr : Tr) (a b : TypeId) (x : Operand) : Option K :=
  match evalOF P tr x with
    | some (.int k n) => match undF P a, undF P b with
      | some _, some (.int k') => kV (vInt k' (k'.wrap n))
      | _, _ => kV (vForce (pureRun P (convert a b (.int k n))))
    | some (.slice base len _) => match undF P a, undF P b with
      | some (.slice e), some .string => match undF P e with
        | some (.int .u8) => match base with
          | none => some (.pure (.string .empty))
          | some ⟨i, off, none⟩ => some (.read (.bytes i off len))
          | _ => none
        | _ => none
      | _, _ => none
    | some (.string x) => match undF P a, undF P b with
      | some .string, some .string => some (.pure (.string x))
      | some .string, some (.slice e) => match undF P e, sizeF P e, Nat.ble x.size room with
        | some (.int .u8), some 1, true => some (.eff (.toBytes e x) false)
        | _, _, _ => none
      | _, _ => none
    | some v => match scalar v with
      | true => kV (vForce (pureRun P (convert a b v)))
      | false => none
    | none => none

noncomputable def kf_slice (P : Program) (tr : Tr) (t : TypeId) (x : Operand) (lo hi mx : Option Operand) : Option K :=
  match evalOF P tr x, optOF P tr lo, optOF P tr hi, optOF P tr mx with
    | some v, some lo, some hi, some mx => match undF P t, v with
      | some .string, .string b => match mx with
        | none => match boundsD b.size b.size b.size lo hi none with
          | some (l, h, _) => some (.pure (.string ⟨⟨slc b.data.toList l (Nat.sub h l)⟩⟩))
          | none => none
        | some _ => none
      | some (.slice elem), .slice a len cap => match sizeF P elem with
        | none => none
        | some sz =>
        match Nat.ble big cap with
        | true => match Nat.beq cap (Nat.add big sz), a with
          | true, some ⟨i, off, none⟩ =>
            match mx with
            | some mv => match boundsD len len len lo hi (some mv) with
              | some (l, h, m) => match Nat.ble big (Nat.sub m l) with
                | true => none
                | false => fNat (match Nat.beq m l with | true => off | false => Nat.add off (Nat.mul l sz)) fun o => some (.pure (.slice (some ⟨i, o, none⟩) (Nat.sub h l) (Nat.sub m l)))
              | none => none
            | none => match boundsD len len len lo hi none with
              | some (l, h, _) => fNat (Nat.add off (Nat.mul l sz)) fun o => some (.pure (.slice (some ⟨i, o, none⟩) (Nat.sub h l) cap))
              | none => none
          | _, _ => none
        | false => match boundsD len cap cap lo hi mx with
          | some (l, h, m) => match a with
            | none => some (.pure (.slice none (Nat.sub h l) (Nat.sub m l)))
            | some ⟨i, off, none⟩ => fNat (match Nat.beq m l with | true => off | false => Nat.add off (Nat.mul l sz)) fun o => some (.pure (.slice (some ⟨i, o, none⟩) (Nat.sub h l) (Nat.sub m l)))
            | _ => none
          | none => none
      | some (.array n elem), .pointer (some ⟨i, off, none⟩) => match boundsD n n n lo hi mx, sizeF P elem, Nat.ble big n with
        | some (l, h, m), some sz, false => fNat (match Nat.beq m l with | true => off | false => Nat.add off (Nat.mul l sz)) fun o => some (.pure (.slice (some ⟨i, o, none⟩) (Nat.sub h l) (Nat.sub m l)))
        | _, _, _ => none
      | _, _ => none
    | _, _, _, _ => none

noncomputable def kf_makeInterface (P : Program) (tr : Tr) (t : TypeId) (x : Operand) : Option K :=
  match evalOF P tr x, undF P t with
    | some _, some (.interface _) => none
    | some v, some _ => some (.pure (.iface t v))
    | _, _ => none

noncomputable def kf_makeFunc (P : Program) (tr : Tr) (fn : Fn) (a b : Array Operand) : Option K :=
  match fn, evalLF P tr a.toList, evalLF P tr b.toList with
    | .func f, some a, some b => some (.pure (.func (.func f) ⟨a⟩ ⟨b⟩))
    | _, _, _ => none

noncomputable def kf_makeMap (P : Program) (_tr : Tr) (t : TypeId) (r : Option Operand) : Option K :=
  match kkMapF P t, r with
    | some kk, none => some (.alloc (.map kk []) .map)
    | _, _ => none

noncomputable def kf_lookup (P : Program) (tr : Tr) (t : TypeId) (x ix : Operand) (ok : Bool) : Option K :=
  match evalOF P tr x, evalOF P tr ix, undF P t with
    | some (.map m), some k, some (.map key elem) => match kkOf (undF P key), zeroF P elem with
      | some kk, some z => match kk.has k with
        | true => some (.read (.look m k z ok))
        | false => none
      | _, _ => none
    | _, _, _ => none

noncomputable def kf_mapUpdate (P : Program) (tr : Tr) (t : TypeId) (m k x : Operand) : Option K :=
  match evalOF P tr m, evalOF P tr k, evalOF P tr x with
    | some (.map (some r)), some k, some v => match kkMapF P t with
      | some kk => some (.eff (.mset kk r k v) true)
      | none => none
    | _, _, _ => none

noncomputable def kf_insert (P : Program) (tr : Tr) (t : TypeId) (m k x : Operand) : Option K :=
  match evalOF P tr m, evalOF P tr k, evalOF P tr x with
    | some (.map (some r)), some k, some v => match kkMapF P t with
      | some kk => some (.ins kk r k v)
      | none => none
    | _, _, _ => none

noncomputable def kf_typeAssert (P : Program) (tr : Tr) (x : Operand) (t : TypeId) (ok : Bool) : Option K :=
  match evalOF P tr x, undF P t with
    | _, some (.interface _) => none
    | some (.iface u v), some _ => match Nat.beq u t with
      | true => some (.pure (okV ok v true))
      | false => match ok, zeroF P t with
        | true, some z => some (.pure (.tuple #[z, .bool false]))
        | _, _ => none
    | some .nilIface, some _ => match ok, zeroF P t with
      | true, some z => some (.pure (.tuple #[z, .bool false]))
      | _, _ => none
    | _, _ => none

noncomputable def kf_panic (P : Program) (tr : Tr) (x : Operand) : Option K :=
  match evalOF P tr x with
    | some (.iface t v) => some (.panic (.iface t v))
    | _ => none

noncomputable def kf_call (P : Program) (tr : Tr) (c : Call) : Option K :=
  match evalLF P tr c.args.toList with
    | none => none
    | some args => match c.callee with
      | .builtin b => builtinF P b c.argTypes.toList args
      | .value f => match evalOF P tr f with
        | some (.func (.func g) ⟨first⟩ ⟨cap⟩) => some (.call g (first ++ (args ++ cap)))
        | _ => none
      | .invoke r name => match evalOF P tr r with
        | some (.iface t v) => match infF P t with
          | some i => match i.methods.find? (fun m => m.name == name) with
            | some m => match m.path.isEmpty, m.func, undF P t with
              | true, some (f, false), some (.struct _) => some (.call f (v :: args))
              | _, _, _ => none
            | none => none
          | none => none
        | _ => none

noncomputable def kf_defer (P : Program) (tr : Tr) (c : Call) : Option K :=
  match evalLF P tr c.args.toList, c.callee with
    | some args, .value f => match evalOF P tr f with
      | some (.func (.func g) ⟨first⟩ ⟨cap⟩) => some (.defr g (first ++ (args ++ cap)))
      | _ => none
    | _, _ => none

noncomputable def opKF (P : Program) (tr : Tr) (o : Oper) : Option K :=
  match o.op with
  | .move x | .assign x => kf_move P tr x
  | .pick c a b => kf_pick P tr c a b
  | .binOp op t x y _ => kf_binOp P tr op t x y
  | .unOp op _ x => kf_unOp P tr op x
  | .load t x => kf_load P tr t x
  | .store t x y => kf_store P tr t x y
  | .fieldAddr t x f => kf_fieldAddr P tr t x f
  | .nilCheck x => kf_nilCheck P tr x
  | .indexAddr t x ix => kf_indexAddr P tr t x ix
  | .index t x ix => kf_index P tr t x ix
  | .field t x f => kf_field P tr t x f
  | .extract x i => kf_extract P tr x i
  | .alloc t => kf_alloc P tr t
  | .box t x => kf_box P tr t x
  | .build t parts => kf_build P tr t parts
  | .buildSlice t len parts => kf_buildSlice P tr t len parts
  | .makeSlice t l c => kf_makeSlice P tr t l c
  | .convert a b x => kf_convert P tr a b x
  | .slice t x lo hi mx => kf_slice P tr t x lo hi mx
  | .makeInterface t x => kf_makeInterface P tr t x
  | .makeFunc fn a b => kf_makeFunc P tr fn a b
  | .makeMap t r => kf_makeMap P tr t r
  | .lookup t x ix ok => kf_lookup P tr t x ix ok
  | .mapUpdate t m k x => kf_mapUpdate P tr t m k x
  | .insert t m k x => kf_insert P tr t m k x
  | .typeAssert x _ t ok => kf_typeAssert P tr x t ok
  | .panic x => kf_panic P tr x
  | .call c => kf_call P tr c
  | .defer c => kf_defer P tr c
  | _ => none

theorem builtinF_eq (P : Program) (b : Builtin) (ats : List TypeId) (args : List Value) : builtinF P b ats args = builtinK P b ats args := by
  unfold builtinF bf_len bf_cap bf_min bf_max bf_append bf_copy bf_clear bf_delete bf_recover bf_unsafeString
  simp only [undF_eq, sizeF_eq, elemF_eq, kkMapF_eq]
  cases b <;> first | rfl | (rcases args with _ | ⟨a, _ | ⟨b, _ | ⟨c, t⟩⟩⟩ <;> first | rfl | (cases a <;> first | rfl | (cases b <;> first | rfl | (rename_i n; cases n <;> rfl))))

theorem opKF_eq (P : Program) (tr : Tr) (o : Oper) : opKF P tr o = opK P tr o := by
  unfold opKF opK kf_move kf_pick kf_binOp kf_unOp kf_load kf_store kf_fieldAddr kf_nilCheck kf_indexAddr kf_index kf_field kf_extract kf_alloc kf_box kf_build kf_buildSlice kf_makeSlice kf_convert kf_slice kf_makeInterface kf_makeFunc kf_makeMap kf_lookup kf_mapUpdate kf_insert kf_typeAssert kf_panic kf_call kf_defer
  simp only [evalOF_eq, evalLF_eq, undF_eq, infF_eq, sizeF_eq, zeroF_eq, elemF_eq, kkMapF_eq, partsF_eq, optOF_eq, szsF_eq, builtinF_eq]
  cases o.op <;> rfl

noncomputable def guardF (ops : List Oper) (tr : Tr) (o : Oper) : Option Bool :=
  match o.guard with
  | none => some true
  | some (j, want) => match nthF ops j with
    | some p => match p.dst with
      | some d => match tr.getF d with
        | some (.bool b) => some (b == want)
        | some _ => some false
        | none => none
      | none => some false
    | none => some false
theorem guardF_eq (ops : List Oper) (tr : Tr) (o : Oper) : guardF ops tr o = guardD ops tr o := by
  unfold guardF guardD; simp only [nthF_eq, Tr.getF_eq]; rfl
noncomputable def argsTrF : Tr → Nat → List Value → Tr
  | tr, _, [] => tr
  | tr, i, v :: vs => argsTrF (tr.setF i (some v)) (Nat.add i 1) vs
theorem argsTrF_eq (vs : List Value) : ∀ (tr : Tr) (i : Nat), argsTrF tr i vs = argsTr tr i vs := by
  induction vs with
  | nil => intro tr i; rfl
  | cons v vs ih => intro tr i; rw [argsTrF, argsTr, ih, Tr.setF_eq]
theorem argsTrF_fun : argsTrF = argsTr := by funext tr i vs; exact argsTrF_eq vs tr i
noncomputable def putTF (a : Ac) (d : Option Tmp) (v : Option Value) : Option Ac := match a with
  | ⟨tr, nt, df⟩ => match d with
    | none => some ⟨tr, nt, df⟩
    | some d => match Nat.blt d nt with
      | true => some ⟨tr.setF d v, nt, df⟩
      | false => none
theorem putTF_eq (a : Ac) (d : Option Tmp) (v : Option Value) : putTF a d v = putT a d v := by
  cases a; cases d with
  | none => rfl
  | some d => unfold putTF putT; simp only [Tr.setF_eq]; rfl

/- a state, with its number as a numeral -/
def stN {α : Type} (s : St) (k : St → α) : α := match s with | ⟨hp, n⟩ => fNat n fun n => k ⟨hp, n⟩
theorem stN_eq {α : Type} (s : St) (k : St → α) : stN s k = k s := by
  cases s with
  | mk hp n => cases n <;> rfl
theorem putTF_fun : putTF = putT := by funext a d v; exact putTF_eq a d v
def addDf (a : Ac) (f : FuncId) (args : List Value) : Ac := match a with | ⟨tr, nt, df⟩ => ⟨tr, nt, (f, args) :: df⟩
theorem addDf_eq (a : Ac) (f : FuncId) (args : List Value) : addDf a f args = { a with df := (f, args) :: a.df } := rfl

/- the evaluator's functions with one fuel less -/
structure Fx where
  ops : List Oper → List Oper → Ac → St → Option (Ex × Ac × St)
  run : K → St → Option (En × St)
  draw : Array Nat → List Oper → List Oper → Nat → Nat → Ac → St → List (Nat × Rec) → List (Nat × St) → Option (Ac × List (Nat × Rec) × List (Nat × St))
  code : Code → Ac → St → Option (Ex × Ac × St)
  scope : Code → Code → Ac → St → Option (Ex × Ac × St)
  opsR : List Oper → List Oper → Ac → St → Md → Option (Ex × Ac × St × Md)
  codeR : Code → Ac → St → Md → Option (Ex × Ac × St × Md)
  defers : List (FuncId × List Value) → Md → St → Option (Md × St)
  call : FuncId → List Value → St → Option (En × St)

noncomputable def opsSk (r : Fx) (ops rest : List Oper) (d : Option Tmp) (a : Ac) (s : St) (v : Value) : Option (Ex × Ac × St) :=
  match putTF a d (some v) with
  | none => none
  | some a => r.ops ops rest a s

noncomputable def opsRn (r : Fx) (ops rest : List Oper) (d : Option Tmp) (a : Ac) : Option (En × St) → Option (Ex × Ac × St)
  | none => none
  | some (.panic v, s) => some (.panic v, a, s)
  | some (.ret v, s) => stN s fun s => opsSk r ops rest d a s v

noncomputable def opsKK (r : Fx) (ops rest : List Oper) (d : Option Tmp) (a : Ac) (s : St) (k : K) : Option (Ex × Ac × St) :=
  match k with
  | .defr f args => match putTF a d (some undefV) with
    | none => none
    | some a => r.ops ops rest (addDf a f args) s
  | .recover => none
  | .panic v => some (.panic v, a, s)
  | k => opsRn r ops rest d a (r.run k s)

theorem opsSk_eq (r : Fx) (ops rest : List Oper) (d : Option Tmp) (a : Ac) (s : St) (v : Value) : opsSk r ops rest d a s v = match putT a d (some v) with
  | none => none
  | some a => r.ops ops rest a s := by unfold opsSk; rw [putTF_eq]
theorem opsRn_eq (r : Fx) (ops rest : List Oper) (d : Option Tmp) (a : Ac) (x : Option (En × St)) : opsRn r ops rest d a x = match x with
  | none => none
  | some (.panic v, s) => some (.panic v, a, s)
  | some (.ret v, s) => match putT a d (some v) with
    | none => none
    | some a => r.ops ops rest a s := by
  unfold opsRn
  simp only [stN_eq, opsSk_eq]

noncomputable def opsB (E : Env) (r : Fx) (ops rest : List Oper) (a : Ac) (s : St) : Option (Ex × Ac × St) :=
  match rest with
  | [] => some (.normal, a, s)
  | o :: rest => match guardF ops a.tr o with
    | none => none
    | some false => opsSk r ops rest o.dst a s undefV
    | some true => match opKF E.P a.tr o with
      | none => none
      | some k => opsKK r ops rest o.dst a s k

def runRd (s : St) (r : Rd) : Option (En × St) := match rdVal s r with | some v => some (.ret v, s) | none => none
def runEf (s : St) (e : Eff) : Option (En × St) := match effD s e with | some (v, s) => some (.ret v, s) | none => none

noncomputable def runB (r : Fx) (k : K) (s : St) : Option (En × St) :=
  match k with
  | .pure v => some (.ret v, s)
  | .read r => runRd s r
  | .alloc b m => stN s fun s => some (.ret (m.val s.n), s.push b)
  | .eff e _ => runEf s e
  | .ins kk r k v => runEf s (.mset kk r k v)
  | .call f args => r.call f args s
  | _ => none

noncomputable def drawKK (r : Fx) (masks : Array Nat) (ops : List Oper) (o : Oper) (rest : List Oper) (i id : Nat) (a : Ac) (s : St) (recs : List (Nat × Rec)) (effs : List (Nat × St)) (k : K) :
    Option (Ac × List (Nat × Rec) × List (Nat × St)) :=
  match k with
  | .pure v => match putTF a o.dst (some v) with
    | none => none
    | some a => r.draw masks ops rest (Nat.succ i) id a s ((i, .pure v) :: recs) effs
  | .read rd => match rdVal (fillS recs (masks.getD i 0) recs s) rd with
    | none => none
    | some v => match putTF a o.dst (some v) with
      | none => none
      | some a => r.draw masks ops rest (Nat.succ i) id a s ((i, .read rd v) :: recs) effs
  | .alloc b m => match isAlloc o.op, plainB b, putTF a o.dst (some (m.val id)) with
    | true, true, some a => r.draw masks ops rest (Nat.succ i) (Nat.succ id) a s ((i, .alloc id b (m.val id)) :: recs) effs
    | _, _, _ => none
  | .ins kk rr k v => match mapRec (masks.getD i 0) kk k rr recs, s.blk rr, keyNew k (insOf rr recs), putTF a o.dst (some undefV) with
    | true, some .hole, true, some a => r.draw masks ops rest (Nat.succ i) id a s ((i, .ins rr k v) :: recs) effs
    | _, _, _, _ => none
  | .eff .. | .call .. => match r.run k (fillS recs (masks.getD i 0) recs s) with
    | some (.ret v, s) => stN s fun s => match putTF a o.dst (some v) with
      | none => none
      | some a => r.draw masks ops rest (Nat.succ i) id a s ((i, .eff v) :: recs) ((i, s) :: effs)
    | _ => none
  | _ => none

noncomputable def drawB (E : Env) (r : Fx) (masks : Array Nat) (ops rest : List Oper) (i id : Nat) (a : Ac) (s : St) (recs : List (Nat × Rec)) (effs : List (Nat × St)) :
    Option (Ac × List (Nat × Rec) × List (Nat × St)) :=
  match rest with
  | [] => some (a, recs, effs.reverse)
  | o :: rest => match guardF ops a.tr o with
    | none => none
    | some false => match putTF a o.dst (some undefV) with
      | none => none
      | some a => r.draw masks ops rest (Nat.succ i) (match isAlloc o.op with | true => Nat.succ id | false => id) a s ((i, .skip) :: recs) effs
    | some true => match opKF E.P a.tr o with
      | none => none
      | some k => drawKK r masks ops o rest i id a s recs effs k

noncomputable def regB (r : Fx) (ops : Array Oper) (a : Ac) (s : St) : Option (Ex × Ac × St) :=
  match staticOk ops with
  | false => none
  | true =>
    let masks := Region.before ops
    stN (holes (nAlloc ops.toList) s) fun s0 => match r.draw masks ops.toList ops.toList 0 s.n a s0 [] [] with
      | none => none
      | some (a, recs, effs) => match chainOk masks effs, lateOk masks recs recs, readsOk masks recs s0 effs recs with
        | true, true, true =>
          let last := match effs.getLast? with | some (_, s) => s | none => s0
          stN (fillS recs (Nat.sub (Nat.shiftLeft 1 ops.toList.length) 1) recs last) fun s => some (.normal, a, s)
        | _, _, _ => none

def seqB (r : Fx) (y : Code) : Option (Ex × Ac × St) → Option (Ex × Ac × St)
  | some (.normal, a, s) => r.code y a s
  | o => o

def blockB (id : Nat) : Option (Ex × Ac × St) → Option (Ex × Ac × St)
  | some (.exit i, a, s) => match Nat.beq i id with | true => some (.normal, a, s) | false => some (.exit i, a, s)
  | o => o

noncomputable def condB (E : Env) (r : Fx) (c : Operand) (x y : Code) (a : Ac) (s : St) : Option (Ex × Ac × St) :=
  match evalOF E.P a.tr c with
  | some (.bool true) => r.code x a s
  | some (.bool false) => r.code y a s
  | _ => none

noncomputable def codeB (E : Env) (r : Fx) (c : Code) (a : Ac) (s : St) : Option (Ex × Ac × St) :=
  match c with
  | .skip | .label _ => some (.normal, a, s)
  | .ret => some (.ret, a, s)
  | .exit i => some (.exit i, a, s)
  | .goto l => some (.goto l, a, s)
  | .region _ ops d => match d with | false => r.ops ops.toList ops.toList a s | true => regB r ops a s
  | .seq x y => seqB r y (r.code x a s)
  | .cond c x y => condB E r c x y a s
  | .block id b => blockB id (r.code b a s)
  | .loop b => seqB r (.loop b) (r.code b a s)
  | .scope b => r.scope b b a s
  | _ => none

def scopeB (r : Fx) (b c : Code) (a : Ac) (s : St) : Option (Ex × Ac × St) :=
  match r.code c a s with
  | some (.goto l, a, s) => match findLabel b l with
    | some rest => r.scope b rest a s
    | none => some (.goto l, a, s)
  | o => o

noncomputable def opsRB (E : Env) (r : Fx) (ops rest : List Oper) (a : Ac) (s : St) (m : Md) : Option (Ex × Ac × St × Md) :=
  match rest with
  | [] => some (.normal, a, s, m)
  | o :: rest =>
    match guardF ops a.tr o with
    | none => none
    | some false => match putTF a o.dst (some undefV) with
      | none => none
      | some a => r.opsR ops rest a s m
    | some true => match opKF E.P a.tr o with
      | none => none
      | some k => match k with
        | .recover => match m with
          | .panic v => match putTF a o.dst (some v) with
            | none => none
            | some a => r.opsR ops rest a s (.done v)
          | m => match putTF a o.dst (some .nilIface) with
            | none => none
            | some a => r.opsR ops rest a s m
        | .panic _ => none
        | k => match r.run k s with
          | some (.ret v, s) => match putTF a o.dst (some v) with
            | none => none
            | some a => r.opsR ops rest a s m
          | _ => none

def codeRB (r : Fx) (c : Code) (a : Ac) (s : St) (m : Md) : Option (Ex × Ac × St × Md) :=
  match c with
  | .seq x y => match r.codeR x a s m with
    | some (.normal, a, s, m) => r.codeR y a s m
    | o => o
  | .region _ ops false => r.opsR ops.toList ops.toList a s m
  | c => match r.code c a s with
    | some (.panic _, _, _) => none
    | some (e, a, s) => some (e, a, s, m)
    | none => none

noncomputable def defersB (E : Env) (r : Fx) (ds : List (FuncId × List Value)) (m : Md) (s : St) : Option (Md × St) :=
  match ds with
  | [] => some (m, s)
  | (f, args) :: ds =>
    match fnF E.P f with
    | none => none
    | some fn => match fn.body with
      | none => none
      | some c => match r.codeR c { tr := argsTrF (Tr.mk (log2D 20 fn.ntmps)) 0 args, nt := fn.ntmps, df := [] } s m with
        | some (ex, a, s, m) => match a.df, Nat.ble args.length fn.ntmps, resD E.P a.tr s fn.results.toList with
          | [], true, some _ => match ex with
            | .normal | .ret => r.defers ds m.next s
            | _ => none
          | _, _, _ => none
        | none => none

noncomputable def callE (E : Env) (r : Fx) (fn : Func) : Option (Ex × Ac × St) → Option (En × St)
  | none => none
  | some (ex, a, s) => match (match ex with | .normal | .ret => some Md.ret | .panic v => some (Md.panic v) | _ => none) with
    | none => none
    | some m => match r.defers a.df m s with
      | some (.ret, s) => match resD E.P a.tr s fn.results.toList with
        | some vs => some (.ret (tupD vs), s)
        | none => none
      | some (.panic v, s) => some (.panic v, s)
      | _ => none

noncomputable def callF (E : Env) (r : Fx) (f : FuncId) (args : List Value) (s : St) : Option (En × St) :=
  match fnF E.P f with
  | none => none
  | some fn => match fn.body with
    | none => match E.xt f with
      | some g => match g args with | some v => some (.ret v, s) | none => none
      | none => none
    | some c => match Nat.ble args.length fn.ntmps with
      | false => none
      | true => callE E r fn (r.code c { tr := argsTrF (Tr.mk (log2D 20 fn.ntmps)) 0 args, nt := fn.ntmps, df := [] } s)

noncomputable def callB (E : Env) (r : Fx) (f : FuncId) (args : List Value) (s : St) : Option (En × St) :=
  match sumD E f args s with
  | some (some (v, s)) => some (.ret v, s)
  | _ => callF E r f args s

def fx0 : Fx where
  ops _ _ _ _ := none
  run _ _ := none
  draw _ _ _ _ _ _ _ _ _ := none
  code _ _ _ := none
  scope _ _ _ _ := none
  opsR _ _ _ _ _ := none
  codeR _ _ _ _ := none
  defers _ _ _ := none
  call _ _ _ := none

noncomputable def fxS (E : Env) (r : Fx) : Fx := ⟨opsB E r, runB r, drawB E r, codeB E r, scopeB r, opsRB E r, codeRB r, defersB E r, callB E r⟩

noncomputable def fx (E : Env) (n : Nat) : Fx := Nat.rec fx0 (fun _ r => fxS E r) n

theorem fx_eq (E : Env) : ∀ n, fx E n = ⟨opsD E n, runK E n, drawD E n, codeD E n, scopeD E n, opsR E n, codeR E n, defersD E n, callD E n⟩
  | 0 => by
    show fx0 = _
    unfold fx0
    congr 1 <;> funext <;> first | rw [opsD] | rw [runK] | rw [drawD] | rw [codeD] | rw [scopeD] | rw [opsR] | rw [codeR] | rw [defersD] | rw [callD]
  | n + 1 => by
    show fxS E (fx E n) = _
    rw [fx_eq E n]
    generalize hr : (⟨opsD E n, runK E n, drawD E n, codeD E n, scopeD E n, opsR E n, codeR E n, defersD E n, callD E n⟩ : Fx) = r
    unfold fxS
    have h0 : opsB E r = opsD E (n + 1) := by
      subst hr
      funext ops rest a s
      cases rest with
      | nil => rw [opsD]; rfl
      | cons o rest =>
        rw [opsD]
        simp only [opsB, guardF_eq, opKF_eq, opsKK, opsRn_eq, opsSk_eq, putTF_fun, addDf_eq]
        cases guardD ops a.tr o with
        | none => rfl
        | some b => cases b with
          | false => rfl
          | true => cases opK E.P a.tr o with
            | none => rfl
            | some k => cases k <;> rfl
    have h1 : runB r = runK E (n + 1) := by
      subst hr
      funext k s
      rw [runK.eq_def]
      cases k <;> first | rfl | (simp only [runB, stN_eq]; cases s with | mk hp n => cases n <;> rfl)
    have h2 : drawB E r = drawD E (n + 1) := by
      subst hr
      funext masks ops rest i id a s recs effs
      cases rest with
      | nil => rw [drawD]; rfl
      | cons o rest =>
        rw [drawD]
        simp only [drawB, guardF_eq, opKF_eq, drawKK, stN_eq, putTF_fun]
        cases guardD ops a.tr o with
        | none => rfl
        | some b => cases b with
          | false => rfl
          | true => cases opK E.P a.tr o with
            | none => rfl
            | some k => cases k <;> rfl
    have h3 : codeB E r = codeD E (n + 1) := by
      subst hr
      funext c a s
      rw [codeD.eq_def]
      cases c with
      | region x ops d => cases d <;> first | rfl | (simp only [codeB, regB, stN_eq]; rfl)
      | cond c x y => simp only [codeB, condB, evalOF_eq]; rfl
      | _ => rfl
    have h4 : scopeB r = scopeD E (n + 1) := by
      subst hr
      funext b c a s
      rw [scopeD]
      rfl
    have h5 : opsRB E r = opsR E (n + 1) := by
      subst hr
      funext ops rest a s m
      cases rest with
      | nil => rw [opsR.eq_def]; rfl
      | cons o rest =>
        rw [opsR.eq_def]
        simp only [opsRB, guardF_eq, opKF_eq, putTF_fun]
        cases guardD ops a.tr o with
        | none => rfl
        | some b => cases b with
          | false => rfl
          | true => cases opK E.P a.tr o with
            | none => rfl
            | some k => cases k <;> first | rfl | (cases m <;> rfl)
    have h6 : codeRB r = codeR E (n + 1) := by
      subst hr
      funext c a s m
      rw [codeR.eq_def]
      cases c with
      | region x ops d => cases d <;> rfl
      | _ => rfl
    have h7 : defersB E r = defersD E (n + 1) := by
      subst hr
      funext ds m s
      cases ds with
      | nil => rw [defersD]; rfl
      | cons d ds => rw [defersD]; simp only [defersB, fnF_eq, argsTrF_fun]; rfl
    have h8 : callB E r = callD E (n + 1) := by
      subst hr
      funext f args s
      rw [callD]
      unfold callB callF callE
      simp only [fnF_eq, argsTrF_fun]
      cases sumD E f args s with
      | none => rfl
      | some x => cases x <;> rfl
    rw [h0, h1, h2, h3, h4, h5, h6, h7, h8]

theorem callD_fx (E : Env) (n : Nat) (f : FuncId) (args : List Value) (s : St) : callD E n f args s = (fx E n).call f args s := by rw [fx_eq]
end Go.Dv
end
section
/- Summaries by the faster form. -/
namespace Go.Dv
noncomputable def sumUpF (E : Env) (n : Nat) (f : FuncId) (args : List Value) (t : St) (ids : List Nat) : Option (Value × List Blk) :=
  match scalars args, nodupN ids with
  | true, true => match (fx E n).call f args t with
    | some (.ret v, t') => match mpV (rnI E.nC ids) v, blksOk E.nC ids t' ids with
      | some v, some bs => some (v, bs)
      | _, _ => none
    | _ => none
  | _, _ => none
theorem sumUp_fx (E : Env) (n : Nat) (f : FuncId) (args : List Value) (t : St) (ids : List Nat) : sumUp E n f args t ids = sumUpF E n f args t ids := by
  unfold sumUp sumUpF
  rw [callD_fx]
  rfl
end Go.Dv
end
section
/- Layers of summaries: a list of calls with what they come to, above an environment. -/
namespace Go.Dv
structure Ent where
  args : List Value
  v : Value
  bs : List Blk

def entsOf : List (FuncId × List Ent) → FuncId → List Ent
  | [], _ => []
  | (g, es) :: l, f => match Nat.beq f g with | true => es | false => entsOf l f

def entFind : List Ent → List Value → Option (Value × List Blk)
  | [], _ => none
  | ⟨a, v, bs⟩ :: es, args => match veqs args a with | true => some (v, bs) | false => entFind es args

def smLay (nC : Nat) (m : List (FuncId × List Ent)) (sm : FuncId → Option (List Value → St → Option (Value × St))) : FuncId → Option (List Value → St → Option (Value × St)) := fun f =>
  match entsOf m f with
  | [] => sm f
  | e :: es => some fun args s => match entFind (e :: es) args with
    | some r => smV nC s (some r)
    | none => match sm f with
      | some g => g args s
      | none => none

def lay (E : Env) (m : List (FuncId × List Ent)) : Env := { P := E.P, nC := E.nC, sm := smLay E.nC m E.sm, xt := E.xt }

def hasBody (P : Program) (f : FuncId) : Bool := match P.funcs[f]? with | some fn => fn.body.isSome | none => false

def EntOk (E : Env) (t : St) (f : FuncId) (e : Ent) : Prop := ∃ n ids, sumUp E n f e.args t ids = some (e.v, e.bs)

theorem EntOk.of {E : Env} {t : St} {f : FuncId} {a : List Value} {v : Value} {bs : List Blk} {n : Nat} {ids : List Nat} (h : sumUpF E n f a t ids = some (v, bs)) : EntOk E t f ⟨a, v, bs⟩ :=
  ⟨n, ids, by rw [sumUp_fx]; exact h⟩

def EntsOk (E : Env) (t : St) (f : FuncId) : List Ent → Prop
  | [] => True
  | e :: es => EntOk E t f e ∧ EntsOk E t f es

def LayOk (E : Env) (t : St) : List (FuncId × List Ent) → Prop
  | [] => True
  | (f, es) :: l => hasBody E.P f = true ∧ EntsOk E t f es ∧ LayOk E t l

theorem entFind_ok {E : Env} {t : St} {f : FuncId} {args : List Value} {v : Value} {bs : List Blk} : ∀ {es : List Ent}, EntsOk E t f es → entFind es args = some (v, bs) → ∃ n ids, sumUp E n f args t ids = some (v, bs)
  | [], _, h => by cases h
  | ⟨a, v', bs'⟩ :: es, ok, h => by
    obtain ⟨⟨n, ids, h1⟩, h2⟩ := ok
    unfold entFind at h
    split at h
    · rename_i he
      cases h
      rw [veqs_eq _ _ he]
      exact ⟨n, ids, h1⟩
    · exact entFind_ok h2 h

theorem entsOf_ok {E : Env} {t : St} {f : FuncId} : ∀ {m : List (FuncId × List Ent)}, LayOk E t m → entsOf m f ≠ [] → hasBody E.P f = true ∧ EntsOk E t f (entsOf m f)
  | [], _, h => by exact absurd rfl h
  | (g, es) :: l, ok, h => by
    obtain ⟨h1, h2, h3⟩ := ok
    unfold entsOf at h ⊢
    split at h
    · rename_i he
      have := Nat.eq_of_beq_eq_true he
      subst this
      exact ⟨h1, h2⟩
    · exact entsOf_ok h3 h

theorem hasBody_ex {P : Program} {f : FuncId} (h : hasBody P f = true) : ∃ fn, P.funcs[f]? = some fn ∧ fn.body.isSome = true := by
  unfold hasBody at h
  split at h
  · rename_i fn hf; exact ⟨fn, hf, h⟩
  · cases h

theorem good_layer {E : Env} {C : Nat → Option Blk} (G : Good E C) {t : St} (hT : Tpl E.nC C t) (m : List (FuncId × List Ent)) (ok : LayOk E t m) : Good (lay E m) C where
  name := G.name
  mixed := G.mixed
  sm := fun f g args v s s' β w cargs h hg hr hl => by
    have h : smLay E.nC m E.sm f = some g := h
    unfold smLay at h
    split at h
    · exact G.sm f g args v s s' β w cargs h hg hr hl
    · rename_i e es he
      cases h
      obtain ⟨hb, hes⟩ := entsOf_ok (f := f) ok (by rw [he]; intro h; cases h)
      rw [he] at hes
      simp only at hg
      split at hg
      · rename_i r hr'
        obtain ⟨v0, bs⟩ := r
        simp only [smV, fNat_eq, Option.some.injEq, Prod.mk.injEq] at hg
        obtain ⟨rfl, rfl⟩ := hg
        obtain ⟨n, ids, hs⟩ := entFind_ok hes hr'
        exact sumUp_ok G hT hs (hasBody_ex hb) hr hl
      · split at hg
        · rename_i g' hg'
          exact G.sm f g' args v s s' β w cargs hg' hg hr hl
        · cases hg
  xt := fun f g args v fn h => G.xt f g args v fn h
end Go.Dv
end
