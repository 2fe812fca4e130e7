import Derived.Test.YtibeagkgilmokaaGreatDoorFkMZ
import Derived.Test.YtibeagkgilmokaaGreatDoorRows
import Derived.Test.YtibeagkgilmokaaGreatDoorTie
import Derived.WalkKit
import Derived.ProofKit
import Derived.OpenShut
import Derived.Deep.DeepHandedRow
import Derived.Deep.DeepWitnessRowRef
import Derived.Lib.LaidTab
import Derived.Test.YtibeagkgilmokaaGreatDoorCards
section
namespace Go.Proofs.YtibeagkgilmokaaGreatDoor
open Go.Dv Go.Proofs Go.ChangeShapes Go.WideShapes Go.ChangeAt Go.RowKit

theorem kc {W : World} (h : laidMet Tryz.prog Rows.flowKnownRow.laid W) :
    Calls Tryz.prog 3 #[] W fun e W' => e = .returned (.bool true) ∧ W'.os = W.os ∧ W'.output = W.output ∧ W.heap.size ≤ W'.heap.size ∧ ∀ k : Nat, k < W.heap.size → W'.heap[k]? = W.heap[k]? :=
  known_calls (E := E8) rfl rfl good8 known_run h
theorem own : ownKnob Tryz.prog.godebug = none := by kernel_rfl

set_option maxRecDepth 100000 in
theorem contract (H : Type) (enc : TypeId × Value → H) (W : World) (args : Array Value) (ds gs : List (DataW H)) (before : List MemPlace)
    (hW : DataW.Whole enc Tryz.prog Tryz.f3.params.toList Rows.flowKnownSpec.vars false W args.toList ds gs before) (hL : laidMetH Tryz.prog Rows.flowKnownRow.laid W) :
    Calls Tryz.prog 3 args W fun e W' => ∃ v, e = .returned v ∧ Rows.flowKnownSpec.post enc Tryz.prog Tryz.f3 false true false false W args v W' := by
  have hW' := hW
  obtain ⟨p, q, hA0, hV, rfl, hfz, hnd⟩ := hW
  have hA : DataW.TrodAll enc Tryz.prog W 0 (fun _ => true) true Tryz.f3.params.toList args.toList ds p := hA0
  rw [Tryz.params3] at hA
  obtain ⟨hargs, rfl, rfl⟩ := trodAll_nil hA
  obtain rfl : args = #[] := by cases args; simp_all
  obtain ⟨rfl, rfl⟩ := trodVars_none hV
  clear hA0
  simp only [List.append_nil] at hW'
  refine (kc hL).mono fun e W' ⟨he, ho, hu, hs, hk⟩ => ?_
  subst he
  refine ⟨_, rfl, [], [], [], [], [], [], hW', trodAll_cons_mk (shut_bool Tryz.underlying4 _) trodAll_mk0, trodAll_mk0, rfl, ⟨ho, hu, fun i hi => ?_⟩, fun h => by cases h⟩
  rw [hk i hi]
  cases W.heap[i]? with
  | none => rfl
  | some o => cases o <;> first | exact ⟨rfl, rfl, rfl, fun _ _ => rfl⟩ | exact .inr ⟨rfl, rfl⟩ | rfl
end Go.Proofs.YtibeagkgilmokaaGreatDoor
end
section
namespace Go.Proofs.YtibeagkgilmokaaGreatDoor
open Go.Dv Go.Proofs Go.ChangeShapes Go.WideShapes Go.ChangeAt Go.RowKit
/- a world for the witness: the settled one, the laid variables and what stands behind them -/
def layCells (h : Array Obj) (i : Nat) (c : List Value) : Array Obj := h.modify i fun
  | .cells _ t frozen => .cells ⟨c⟩ t frozen
  | o => o
def laidAll (h : Array Obj) (l : List (Nat × List Value)) : Array Obj := l.foldl (fun h p => layCells h p.1 p.2) h
def laidList : List (Nat × List Value) := [(0, Kc 0), (1, Kc 1), (2, Kc 2), (3, [.slice (some ⟨16, 0, none⟩) 9 9]), (4, Kc 4), (6, [.iface 416 (.pointer (some ⟨17, 0, none⟩))]), (7, [.iface 416 (.pointer (some ⟨18, 0, none⟩))]), (8, Kc 8), (9, Kc 9), (10, Kc 10)]
noncomputable def laidWorld (os : Os) : World :=
  { World.holding Tryz.prog os ⟨#[], #[], []⟩ with
    heap := laidAll (World.holding Tryz.prog os ⟨#[], #[], []⟩).heap laidList ++ #[.cells ⟨Kc 11⟩ 327 (0, 0), .cells ⟨Kc 12⟩ 418 (0, 0), .cells ⟨Kc 13⟩ 418 (0, 0)] }
end Go.Proofs.YtibeagkgilmokaaGreatDoor
end
section
namespace Go.Proofs.YtibeagkgilmokaaGreatDoor
open Go.Dv Go.Proofs Go.ChangeShapes Go.WideShapes Go.ChangeAt Go.RowKit
theorem laid_met (os : Os) : laidMet Tryz.prog Rows.flowKnownRow.laid ((laidWorld os).forCall (fun _ _ => 0) ⟨#[], #[], []⟩).memory :=
  laidMet_of_run' 12 (by kernel_rfl) (by kernel_rfl)
end Go.Proofs.YtibeagkgilmokaaGreatDoor
end
section
namespace Go.Proofs.YtibeagkgilmokaaGreatDoor
open Go.Dv Go.Proofs Go.ChangeShapes Go.WideShapes Go.ChangeAt Go.RowKit
theorem reads (os : Os) {H : Type} (enc : TypeId × Value → H) : ∃ places, DataW.whole enc Tryz.prog ((laidWorld os).forCall (fun _ _ => 0) ⟨#[], #[], []⟩).memory Tryz.f3.params.toList Rows.flowKnownSpec.vars false (#[] : Array Value).toList 8 = some ([], [], places) :=
  ⟨[], by kernel_rfl⟩
end Go.Proofs.YtibeagkgilmokaaGreatDoor
end
section
namespace Go.Proofs.YtibeagkgilmokaaGreatDoor
open Go.Dv Go.Proofs Go.ChangeShapes Go.WideShapes Go.ChangeAt Go.RowKit
set_option maxRecDepth 100000 in
theorem lifted (os : Os) (started : os.Started) (H : Type) (enc : TypeId × Value → H) (F : Stop.Interp) :
    ReturnsInHanded {} Tryz.checked os 3 .any ((OpenSpec.ofChange Rows.flowKnownSpec).preRow enc Tryz.prog Tryz.f3 Rows.flowKnownRow.domain false Rows.flowKnownRow.laid) (((OpenSpec.ofChange Rows.flowKnownSpec).at F).post enc Tryz.prog Tryz.f3 false true false false) := by
  obtain ⟨places, hx⟩ := reads os enc
  refine returnsInHanded_of_row (C := Tryz.checked) (s := OpenSpec.ofChange Rows.flowKnownSpec) own started (by kernel_rfl) Tryz.func3
    (witness_row_atRef (enc := enc) (C := Tryz.checked) false (laidWorld os) #[] rfl (by kernel_rfl) (by kernel_rfl) (by kernel_rfl)
      (OpenSpec.preRow_of_cond 8 hx (by kernel_rfl) (fun k hk => by cases hk) (by kernel_rfl) (laid_met os))) ?_
  intro W base args ds gs before hval hW _ _ _ hL _ _
  exact contract H enc W args ds gs before hW hL
end Go.Proofs.YtibeagkgilmokaaGreatDoor
end
section
namespace Go.Proofs.YtibeagkgilmokaaGreatDoor
open Go.Dv Go.Proofs Go.ChangeShapes Go.WideShapes Go.ChangeAt Go.RowKit
theorem plain (f : FuncId) (fn : Func) (hf : Tryz.pinned.checked.prog.funcNamed "coxless/coxlesslaw30.FlowKnown" = some f) (hfn : Tryz.pinned.checked.prog.funcs[f]? = some fn) :
    true = Tryz.pinned.checked.prog.looks [] ∧ ∀ (j : Nat) t, fn.params[j]? = some t → Tryz.pinned.checked.prog.wantsStandIn t = false := by
  obtain rfl : f = 3 := Option.some.inj ((show Tryz.prog.funcNamed "coxless/coxlesslaw30.FlowKnown" = some 3 by kernel_rfl).symm.trans hf) |>.symm
  obtain rfl : fn = Tryz.f3 := (Option.some.inj (Tryz.func3.symm.trans hfn)).symm
  refine ⟨by kernel_rfl, fun j t ht => ?_⟩
  rw [Tryz.params3] at ht
  simp at ht
end Go.Proofs.YtibeagkgilmokaaGreatDoor
end
