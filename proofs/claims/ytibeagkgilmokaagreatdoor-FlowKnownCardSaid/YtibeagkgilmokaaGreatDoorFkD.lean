/- Proved: the closed statement FlowKnown of coxlesslaw30 holds of the given program (it returns true). Conditions: those of the given row and card alone; no hypothesis of its own. -/
import Derived.Test.YtibeagkgilmokaaGreatDoorFkC
import Derived.Test.YtibeagkgilmokaaGreatDoorFkJF4
section
namespace Go.Proofs.YtibeagkgilmokaaGreatDoor
open Go.Dv Go.Proofs Go.ChangeShapes Go.WideShapes Go.ChangeAt Go.RowKit
theorem said : Rows.FlowKnownSaid :=
  OpenClaim.holds_of_cond 3 Tryz.f3 rfl rfl rfl rfl rfl rfl rfl ⟨rfl, rfl, rfl, rfl, rfl⟩ rfl rfl rfl rfl rfl (by kernel_rfl) Tryz.func3 closed
    (of_decide_eq_true (by kernel_rfl)) (by unfold Func.isWrapper; first | (rw [if_pos (by decide +kernel)]; kernel_rfl) | (rw [if_neg (by decide +kernel)]; exact ⟨rfl, rfl⟩))
    (fun os started H enc _ F => by rw [OpenClaim.pre_eq_preRow]; exact lifted os started H enc F)
end Go.Proofs.YtibeagkgilmokaaGreatDoor
end
section
namespace Go.Proofs.YtibeagkgilmokaaGreatDoor
open Go.Proofs Go.ChangeShapes Go.WideShapes Go.ChangeAt Go.RowKit
theorem card : Rows.FlowKnownCardSaid :=
  Claim7.holds_tied_plain_at .later [] _ _ _ _ said (fun _ h => by cases h) k0 (fun _ h => by cases h) flowKnown_row_tie rfl ⟨rfl, rfl⟩ k1 k3 plain k2
end Go.Proofs.YtibeagkgilmokaaGreatDoor
end
