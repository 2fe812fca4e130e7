import Derived.Test.YtibeagkgilmokaaGreatDoorRows
import Derived.Test.YtibeagkgilmokaaGreatDoorTie
import Derived.WalkKit
import Derived.ProofKit
import Derived.OpenShut
import Derived.Deep.DeepHandedRow
import Derived.Deep.DeepWitnessRowRef
import Derived.Lib.LaidTab
import Derived.Test.YtibeagkgilmokaaGreatDoorCards
import Derived.Test.YtibeagkgilmokaaGreatDoorFkJF0
import Derived.Test.YtibeagkgilmokaaGreatDoorFkJF1
import Derived.Test.YtibeagkgilmokaaGreatDoorFkJF2
import Derived.Test.YtibeagkgilmokaaGreatDoorFkJF3
section
namespace Go.Proofs.YtibeagkgilmokaaGreatDoor
open Go.Proofs Go.ChangeShapes Go.WideShapes Go.ChangeAt Go.RowKit
theorem j0 : (Rows.flowKnownRow.wf (OpenSpec.ofChange (OpenSpec.ofChange Rows.flowKnownSpec).bare)) = true := by kernel_rfl
theorem j3 : (Tryz.f3.params.all (Tryz.prog.readableRec ·)) = true := by kernel_rfl
theorem j4 : (namedTie Tryz.prog Rows.flowKnownRow.named (OpenSpec.ofChange Rows.flowKnownSpec).bare.vars) = true := by kernel_rfl
theorem j5 : ((Rows.flowKnownRow.stops == [])) = true := by kernel_rfl
theorem j6 : ((Tryz.prog.stops == [])) = true := by kernel_rfl
theorem j7 : ((Rows.flowKnownRow.knobs == [])) = true := by kernel_rfl
theorem j8 : ((Tryz.prog.stopKnobs == [])) = true := by kernel_rfl
theorem j13 : ((Rows.flowKnownRow.maps == (Tryz.f3.params.toList ++ (OpenSpec.ofChange Rows.flowKnownSpec).bare.plain.varTypes Tryz.prog).any (Tryz.prog.mapsRec ·))) = true := by kernel_rfl
theorem j14 : ((Rows.flowKnownRow.ifaces == (Tryz.f3.params.toList ++ (OpenSpec.ofChange Rows.flowKnownSpec).bare.plain.varTypes Tryz.prog).any (Tryz.prog.ifacesRec ·))) = true := by kernel_rfl
theorem j15 : ((Rows.flowKnownRow.mapsOut == Tryz.prog.mapsAmong Tryz.f3.resultTypes.toList)) = true := by kernel_rfl
theorem j16 : ((Rows.flowKnownRow.loops == (Tryz.f3.params.toList ++ (OpenSpec.ofChange Rows.flowKnownSpec).bare.plain.varTypes Tryz.prog).any (Tryz.prog.loopsFrom ·))) = true := by kernel_rfl
theorem j17 : ((Rows.flowKnownRow.wideKeys == (Tryz.f3.params.toList ++ (OpenSpec.ofChange Rows.flowKnownSpec).bare.plain.varTypes Tryz.prog ++ Tryz.f3.resultTypes.toList).any (Tryz.prog.wideKeysFrom ·))) = true := by kernel_rfl
theorem j18 : ((OpenSpec.ofChange Rows.flowKnownSpec).bare.vars.all (Tryz.prog.varReadable ·)) = true := by kernel_rfl
theorem j19 : (Tryz.f3.resultTypes.all (fun t => Tryz.prog.readableRec t && decide (t < Tryz.prog.types.size))) = true := by kernel_rfl
theorem j20 : ((Rows.flowKnownRow.ifacesOut == Tryz.f3.resultTypes.toList.any (Tryz.prog.ifacesRec ·))) = true := by kernel_rfl
theorem j21 : ((Rows.flowKnownRow.loopsOut == Tryz.f3.resultTypes.toList.any (Tryz.prog.loopsFrom ·))) = true := by kernel_rfl
theorem j23 : (Rows.flowKnownRow.shortTexts.isNone) = true := by kernel_rfl
theorem j29 : ((Rows.flowKnownRow.pinned == Rows.flowKnownRow.pinnedBy)) = true := by kernel_rfl
theorem j30 : ((Rows.flowKnownRow.veiled == (Tryz.f3.params.toList ++ (OpenSpec.ofChange Rows.flowKnownSpec).bare.plain.varTypes Tryz.prog ++ Tryz.f3.resultTypes.toList).any (Tryz.prog.veiledRec ·))) = true := by kernel_rfl
theorem j31 : (Rows.flowKnownRow.veiledFits Tryz.prog Tryz.f3.params.toList (Tryz.f3.params.toList ++ (OpenSpec.ofChange Rows.flowKnownSpec).bare.plain.varTypes Tryz.prog ++ Tryz.f3.resultTypes.toList)) = true := by kernel_rfl
end Go.Proofs.YtibeagkgilmokaaGreatDoor
end
section
namespace Go.Proofs.YtibeagkgilmokaaGreatDoor
open Go.Proofs Go.ChangeShapes Go.WideShapes Go.ChangeAt Go.RowKit
theorem goes_none {P : Program} (h : P.funcs.toList.any Func.goes = false) (f : FuncId) : P.goes f = false := by
  have hx : ∀ fn ∈ P.funcs.toList, fn.goes = false := fun fn hfn => by have := List.any_eq_false.1 h fn hfn; simpa using this
  have h1 : ((P.closure f).any fun g => (P.funcs[g]?).any Func.goes) = false := by
    rw [List.any_eq_false]
    intro g _
    cases hg : P.funcs[g]? with
    | none => simp
    | some fn =>
      have := hx fn (List.mem_of_getElem? (by rw [Array.getElem?_toList]; exact hg))
      simp [this]
  have h2 : P.funcs.any Func.goes = false := by rw [← Array.any_toList]; exact h
  unfold Program.goes
  rw [h1, h2]
  simp
theorem noGoes : Tryz.prog.funcs.toList.any Func.goes = false := by kernel_rfl
theorem k2 : false = Rows.flowKnownRow.goesBy Tryz.pinned.checked.prog := by
  show false = ((Tryz.prog.funcNamed Rows.flowKnownRow.func).any Tryz.prog.goes || false)
  cases Tryz.prog.funcNamed Rows.flowKnownRow.func with
  | none => rfl
  | some f => simp [goes_none noGoes f]
theorem k0 : Rows.flowKnownRow.wfByText (OpenSpec.ofChange Rows.flowKnownSpec) = true := by kernel_rfl
theorem k1 : Tryz.pinned.checked.prog.mainIs = some (Rows.flowKnownCard.stood.harness.1, Rows.flowKnownCard.stood.harness.2.toList) := by kernel_rfl
theorem k3 : (!Rows.flowKnownCard.stood.harness.1 && Rows.flowKnownCard.stood.harness.2.isEmpty && !Rows.flowKnownCard.stood.looks) = false := by kernel_rfl
end Go.Proofs.YtibeagkgilmokaaGreatDoor
end
section
namespace Go.Proofs.YtibeagkgilmokaaGreatDoor
open Go.Proofs Go.ChangeShapes Go.WideShapes Go.ChangeAt Go.RowKit
theorem closed : joinedFacts Tryz.prog 3 Tryz.f3 (OpenSpec.ofChange Rows.flowKnownSpec).bare Rows.flowKnownRow = true := by
  unfold joinedFacts
  simp only [Bool.and_eq_true]
  exact ⟨⟨⟨⟨⟨⟨⟨⟨⟨⟨⟨⟨⟨⟨⟨⟨⟨⟨⟨⟨⟨⟨⟨⟨⟨⟨⟨⟨⟨⟨⟨j0, j1⟩, j2⟩, j3⟩, j4⟩, j5⟩, j6⟩, j7⟩, j8⟩, j9⟩, j10⟩, j11⟩, j12⟩, j13⟩, j14⟩, j15⟩, j16⟩, j17⟩, j18⟩, j19⟩, j20⟩, j21⟩, j22⟩, j23⟩, j24⟩, j25⟩, j26⟩, j27⟩, (by kernel_rfl)⟩, j29⟩, j30⟩, j31⟩
end Go.Proofs.YtibeagkgilmokaaGreatDoor
end
