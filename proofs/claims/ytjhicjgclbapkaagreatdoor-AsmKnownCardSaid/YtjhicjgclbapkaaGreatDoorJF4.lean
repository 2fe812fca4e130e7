import Derived.Test.YtjhicjgclbapkaaGreatDoorRows
import Derived.Test.YtjhicjgclbapkaaGreatDoorTie
import Derived.WalkKit
import Derived.ProofKit
import Derived.OpenShut
import Derived.Deep.DeepHandedRow
import Derived.Deep.DeepWitnessRowRef
import Derived.Lib.LaidTab
import Derived.Test.YtjhicjgclbapkaaGreatDoorCards
import Derived.Test.YtjhicjgclbapkaaGreatDoorJF0
import Derived.Test.YtjhicjgclbapkaaGreatDoorJF1
import Derived.Test.YtjhicjgclbapkaaGreatDoorJF2
import Derived.Test.YtjhicjgclbapkaaGreatDoorJF3
section
namespace Go.Proofs.YtjhicjgclbapkaaGreatDoor
open Go.Proofs Go.ChangeShapes Go.WideShapes Go.ChangeAt Go.RowKit
theorem j0 : (Rows.asmKnownRow.wf (OpenSpec.ofChange (OpenSpec.ofChange Rows.asmKnownSpec).bare)) = true := by kernel_rfl
theorem j3 : (Tryz.f6.params.all (Tryz.prog.readableRec ·)) = true := by kernel_rfl
theorem j4 : (namedTie Tryz.prog Rows.asmKnownRow.named (OpenSpec.ofChange Rows.asmKnownSpec).bare.vars) = true := by kernel_rfl
theorem j5 : ((Rows.asmKnownRow.stops == [])) = true := by kernel_rfl
theorem j6 : ((Tryz.prog.stops == [])) = true := by kernel_rfl
theorem j7 : ((Rows.asmKnownRow.knobs == [])) = true := by kernel_rfl
theorem j8 : ((Tryz.prog.stopKnobs == [])) = true := by kernel_rfl
theorem j13 : ((Rows.asmKnownRow.maps == (Tryz.f6.params.toList ++ (OpenSpec.ofChange Rows.asmKnownSpec).bare.plain.varTypes Tryz.prog).any (Tryz.prog.mapsRec ·))) = true := by kernel_rfl
theorem j14 : ((Rows.asmKnownRow.ifaces == (Tryz.f6.params.toList ++ (OpenSpec.ofChange Rows.asmKnownSpec).bare.plain.varTypes Tryz.prog).any (Tryz.prog.ifacesRec ·))) = true := by kernel_rfl
theorem j15 : ((Rows.asmKnownRow.mapsOut == Tryz.prog.mapsAmong Tryz.f6.resultTypes.toList)) = true := by kernel_rfl
theorem j16 : ((Rows.asmKnownRow.loops == (Tryz.f6.params.toList ++ (OpenSpec.ofChange Rows.asmKnownSpec).bare.plain.varTypes Tryz.prog).any (Tryz.prog.loopsFrom ·))) = true := by kernel_rfl
theorem j17 : ((Rows.asmKnownRow.wideKeys == (Tryz.f6.params.toList ++ (OpenSpec.ofChange Rows.asmKnownSpec).bare.plain.varTypes Tryz.prog ++ Tryz.f6.resultTypes.toList).any (Tryz.prog.wideKeysFrom ·))) = true := by kernel_rfl
theorem j18 : ((OpenSpec.ofChange Rows.asmKnownSpec).bare.vars.all (Tryz.prog.varReadable ·)) = true := by kernel_rfl
theorem j19 : (Tryz.f6.resultTypes.all (fun t => Tryz.prog.readableRec t && decide (t < Tryz.prog.types.size))) = true := by kernel_rfl
theorem j20 : ((Rows.asmKnownRow.ifacesOut == Tryz.f6.resultTypes.toList.any (Tryz.prog.ifacesRec ·))) = true := by kernel_rfl
theorem j21 : ((Rows.asmKnownRow.loopsOut == Tryz.f6.resultTypes.toList.any (Tryz.prog.loopsFrom ·))) = true := by kernel_rfl
theorem j23 : (Rows.asmKnownRow.shortTexts.isNone) = true := by kernel_rfl
theorem j28 : ((Rows.asmKnownRow.kinds == (if Rows.asmKnownRow.domain.isEmpty then [] else Tryz.f6.params.toList.map fun t => match Tryz.prog.underlying t with | some (.int k) => some k | _ => none))) = true := by kernel_rfl
theorem j29 : ((Rows.asmKnownRow.pinned == Rows.asmKnownRow.pinnedBy)) = true := by kernel_rfl
theorem j30 : ((Rows.asmKnownRow.veiled == (Tryz.f6.params.toList ++ (OpenSpec.ofChange Rows.asmKnownSpec).bare.plain.varTypes Tryz.prog ++ Tryz.f6.resultTypes.toList).any (Tryz.prog.veiledRec ·))) = true := by kernel_rfl
theorem j31 : (Rows.asmKnownRow.veiledFits Tryz.prog Tryz.f6.params.toList (Tryz.f6.params.toList ++ (OpenSpec.ofChange Rows.asmKnownSpec).bare.plain.varTypes Tryz.prog ++ Tryz.f6.resultTypes.toList)) = true := by kernel_rfl
end Go.Proofs.YtjhicjgclbapkaaGreatDoor
end
section
namespace Go.Proofs.YtjhicjgclbapkaaGreatDoor
open Go.Proofs Go.ChangeShapes Go.WideShapes Go.ChangeAt Go.RowKit
theorem k0 : Rows.asmKnownRow.wfByText (OpenSpec.ofChange Rows.asmKnownSpec) = true := by kernel_rfl
end Go.Proofs.YtjhicjgclbapkaaGreatDoor
end
section
namespace Go.Proofs.YtjhicjgclbapkaaGreatDoor
open Go.Proofs Go.ChangeShapes Go.WideShapes Go.ChangeAt Go.RowKit
theorem k1 : Tryz.pinned.checked.prog.mainIs = some (Rows.asmKnownCard.stood.harness.1, Rows.asmKnownCard.stood.harness.2.toList) := by kernel_rfl
end Go.Proofs.YtjhicjgclbapkaaGreatDoor
end
section
namespace Go.Proofs.YtjhicjgclbapkaaGreatDoor
open Go.Proofs Go.ChangeShapes Go.WideShapes Go.ChangeAt Go.RowKit
theorem goes_none {P : Program} (h : P.funcs.toList.any Func.goes = false) (f : FuncId) : P.goes f = false := by
  have hx : ∀ fn ∈ P.funcs.toList, fn.goes = false := fun fn hfn => by have := List.any_eq_false.1 h fn hfn; simpa using this
  have h1 : ((P.closure f).any fun g => (P.funcs[g]?).any Func.goes) = false := by
    rw [List.any_eq_false]
    intro g _
    cases hg : P.funcs[g]? with
    | none => simp
    | some fn =>
      have := hx fn (List.mem_of_getElem? (by rw [Array.getElem?_toList]; exact hg))
      simp [this]
  have h2 : P.funcs.any Func.goes = false := by rw [← Array.any_toList]; exact h
  unfold Program.goes
  rw [h1, h2]
  simp
theorem noGoes : Tryz.prog.funcs.toList.any Func.goes = false := by kernel_rfl
theorem k2 : false = Rows.asmKnownRow.goesBy Tryz.pinned.checked.prog := by
  show false = ((Tryz.prog.funcNamed Rows.asmKnownRow.func).any Tryz.prog.goes || false)
  cases Tryz.prog.funcNamed Rows.asmKnownRow.func with
  | none => rfl
  | some f => simp [goes_none noGoes f]
end Go.Proofs.YtjhicjgclbapkaaGreatDoor
end
section
namespace Go.Proofs.YtjhicjgclbapkaaGreatDoor
open Go.Proofs Go.ChangeShapes Go.WideShapes Go.ChangeAt Go.RowKit
theorem k3 : (!Rows.asmKnownCard.stood.harness.1 && Rows.asmKnownCard.stood.harness.2.isEmpty && !Rows.asmKnownCard.stood.looks) = false := by kernel_rfl
end Go.Proofs.YtjhicjgclbapkaaGreatDoor
end
section
namespace Go.Proofs.YtjhicjgclbapkaaGreatDoor
open Go.Proofs Go.ChangeShapes Go.WideShapes Go.ChangeAt Go.RowKit
theorem closed : joinedFacts Tryz.prog 6 Tryz.f6 (OpenSpec.ofChange Rows.asmKnownSpec).bare Rows.asmKnownRow = true := by
  unfold joinedFacts
  simp only [Bool.and_eq_true]
  exact ⟨⟨⟨⟨⟨⟨⟨⟨⟨⟨⟨⟨⟨⟨⟨⟨⟨⟨⟨⟨⟨⟨⟨⟨⟨⟨⟨⟨⟨⟨⟨j0, j1⟩, j2⟩, j3⟩, j4⟩, j5⟩, j6⟩, j7⟩, j8⟩, j9⟩, j10⟩, j11⟩, j12⟩, j13⟩, j14⟩, j15⟩, j16⟩, j17⟩, j18⟩, j19⟩, j20⟩, j21⟩, j22⟩, j23⟩, j24⟩, j25⟩, j26⟩, j27⟩, (by kernel_rfl)⟩, j29⟩, j30⟩, j31⟩
end Go.Proofs.YtjhicjgclbapkaaGreatDoor
end
