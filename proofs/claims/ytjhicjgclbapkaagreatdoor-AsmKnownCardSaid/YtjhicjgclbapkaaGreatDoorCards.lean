/-
  DERIVED. GIVEN WITH THE SEED: THE CARDS: each row of YtjhicjgclbapkaaGreatDoorRows.lean that lists a variable, with what it lists TIED to the program's text (the seventh form; the later family's looks); each row that meets fmt, with fmt's text TOLD by the authors' own Lean function (tested against real Go, not proved from fmt's source: count such statements apart). THE CARD IS WHAT COUNTS. Prove the row's statement (the work); the ties are given (YtjhicjgclbapkaaGreatDoorTie.lean); close each card by the builder's one call (the guide's Derived/Test/ToyasCard.lean, 'card_holds'). Laid BY PROGRAM, IN A SANDBOX (cutbox-door.mjs). By AI agents, Wed Nov 11 2026. No macro, syntax, notation, axiom, sorry.
-/
import Derived.Test.YtjhicjgclbapkaaGreatDoorRows
import GoSem.ClaimSeven
namespace Go.Proofs.YtjhicjgclbapkaaGreatDoor
namespace Rows

/-- THE TIED CARD OF 'coxlesslaw27.TraceRuns'. -/
def traceRunsCard : Claim7 := { stood := { row := traceRunsRow, standIns := [], harness := (true, "715c8737c8318233c6f5214151b300c512b2698465369de7af07d6f81c93040e"), looks := true }, kinds := [], alts := [], laidByText := true, laidKinds := [.wider, .wider, .wider, .wider, .data, .data, .data, .data], laidTests := true, laidLooks := .later }
def TraceRunsCardSaid : Prop := Claim7.holds Tryz.pinned (.plain (OpenSpec.ofChange traceRunsSpec)) traceRunsCard

/-- THE TIED CARD OF 'coxlesslaw26.CpuPack'. -/
def cpuPackCard : Claim7 := { stood := { row := cpuPackRow, standIns := [], harness := (true, "715c8737c8318233c6f5214151b300c512b2698465369de7af07d6f81c93040e"), looks := true }, kinds := [], alts := [], laidByText := true, laidKinds := [.wider, .wider, .wider, .wider, .data], laidTests := true, laidLooks := .later }
def CpuPackCardSaid : Prop := Claim7.holds Tryz.pinned (.plain (OpenSpec.ofChange cpuPackSpec)) cpuPackCard

/-- THE TIED CARD OF 'coxlesslaw21.AsmSteps'. -/
def asmStepsCard : Claim7 := { stood := { row := asmStepsRow, standIns := [], harness := (true, "715c8737c8318233c6f5214151b300c512b2698465369de7af07d6f81c93040e"), looks := true }, kinds := [], alts := [], laidByText := true, laidKinds := [.wider, .wider, .wider, .wider, .data, .data, .data, .data, .sentinel, .sentinel], laidTests := true, laidLooks := .later }
def AsmStepsCardSaid : Prop := Claim7.holds Tryz.pinned (.plain (OpenSpec.ofChange asmStepsSpec)) asmStepsCard

/-- THE TIED CARD OF 'coxlesslaw21.AsmKnown'. -/
def asmKnownCard : Claim7 := { stood := { row := asmKnownRow, standIns := [], harness := (true, "715c8737c8318233c6f5214151b300c512b2698465369de7af07d6f81c93040e"), looks := true }, kinds := [], alts := [], laidByText := true, laidKinds := [.wider, .wider, .wider, .wider, .data, .data, .data, .data, .sentinel, .sentinel], laidTests := true, laidLooks := .later }
def AsmKnownCardSaid : Prop := Claim7.holds Tryz.pinned (.plain (OpenSpec.ofChange asmKnownSpec)) asmKnownCard

/-- THE TIED CARD OF 'coxlesslaw21.AsmBlanks'. -/
def asmBlanksCard : Claim7 := { stood := { row := asmBlanksRow, standIns := [], harness := (true, "715c8737c8318233c6f5214151b300c512b2698465369de7af07d6f81c93040e"), looks := true }, kinds := [], alts := [], laidByText := true, laidKinds := [.wider, .wider, .wider, .wider, .data, .data, .data, .data, .sentinel, .sentinel], laidTests := true, laidLooks := .later }
def AsmBlanksCardSaid : Prop := Claim7.holds Tryz.pinned (.plain (OpenSpec.ofChange asmBlanksSpec)) asmBlanksCard

/-- THE TIED CARD OF 'coxlesslaw21.AsmEither'. -/
def asmEitherCard : Claim7 := { stood := { row := asmEitherRow, standIns := [], harness := (true, "715c8737c8318233c6f5214151b300c512b2698465369de7af07d6f81c93040e"), looks := true }, kinds := [], alts := [], laidByText := true, laidKinds := [.wider, .wider, .wider, .wider, .data, .data, .data, .data, .sentinel, .sentinel], laidTests := true, laidLooks := .later }
def AsmEitherCardSaid : Prop := Claim7.holds Tryz.pinned (.plain (OpenSpec.ofChange asmEitherSpec)) asmEitherCard

/-- THE SECOND FORM's CARD OF 'coxlesslaw27.TraceRuns'. -/
def traceRunsUptoCard : Claim7 := { stood := { row := traceRunsUptoRow, standIns := [], harness := (true, "715c8737c8318233c6f5214151b300c512b2698465369de7af07d6f81c93040e"), looks := true }, kinds := [], alts := [], laidByText := true, laidKinds := [.wider, .wider, .wider, .wider, .data, .data, .data, .data], laidTests := true, laidLooks := .later }
def TraceRunsUptoCardSaid : Prop := Claim7.holds Tryz.pinned (.plain (OpenSpec.upto traceRunsSpec)) traceRunsUptoCard

/-- THE SECOND FORM's CARD OF 'coxlesslaw26.CpuPack'. -/
def cpuPackUptoCard : Claim7 := { stood := { row := cpuPackUptoRow, standIns := [], harness := (true, "715c8737c8318233c6f5214151b300c512b2698465369de7af07d6f81c93040e"), looks := true }, kinds := [], alts := [], laidByText := true, laidKinds := [.wider, .wider, .wider, .wider, .data], laidTests := true, laidLooks := .later }
def CpuPackUptoCardSaid : Prop := Claim7.holds Tryz.pinned (.plain (OpenSpec.upto cpuPackSpec)) cpuPackUptoCard

/-- THE SECOND FORM's CARD OF 'coxlesslaw21.AsmSteps'. -/
def asmStepsUptoCard : Claim7 := { stood := { row := asmStepsUptoRow, standIns := [], harness := (true, "715c8737c8318233c6f5214151b300c512b2698465369de7af07d6f81c93040e"), looks := true }, kinds := [], alts := [], laidByText := true, laidKinds := [.wider, .wider, .wider, .wider, .data, .data, .data, .data, .sentinel, .sentinel], laidTests := true, laidLooks := .later }
def AsmStepsUptoCardSaid : Prop := Claim7.holds Tryz.pinned (.plain (OpenSpec.upto asmStepsSpec)) asmStepsUptoCard

/-- THE SECOND FORM's CARD OF 'coxlesslaw21.AsmKnown'. -/
def asmKnownUptoCard : Claim7 := { stood := { row := asmKnownUptoRow, standIns := [], harness := (true, "715c8737c8318233c6f5214151b300c512b2698465369de7af07d6f81c93040e"), looks := true }, kinds := [], alts := [], laidByText := true, laidKinds := [.wider, .wider, .wider, .wider, .data, .data, .data, .data, .sentinel, .sentinel], laidTests := true, laidLooks := .later }
def AsmKnownUptoCardSaid : Prop := Claim7.holds Tryz.pinned (.plain (OpenSpec.upto asmKnownSpec)) asmKnownUptoCard

/-- THE SECOND FORM's CARD OF 'coxlesslaw21.AsmBlanks'. -/
def asmBlanksUptoCard : Claim7 := { stood := { row := asmBlanksUptoRow, standIns := [], harness := (true, "715c8737c8318233c6f5214151b300c512b2698465369de7af07d6f81c93040e"), looks := true }, kinds := [], alts := [], laidByText := true, laidKinds := [.wider, .wider, .wider, .wider, .data, .data, .data, .data, .sentinel, .sentinel], laidTests := true, laidLooks := .later }
def AsmBlanksUptoCardSaid : Prop := Claim7.holds Tryz.pinned (.plain (OpenSpec.upto asmBlanksSpec)) asmBlanksUptoCard

/-- THE SECOND FORM's CARD OF 'coxlesslaw21.AsmEither'. -/
def asmEitherUptoCard : Claim7 := { stood := { row := asmEitherUptoRow, standIns := [], harness := (true, "715c8737c8318233c6f5214151b300c512b2698465369de7af07d6f81c93040e"), looks := true }, kinds := [], alts := [], laidByText := true, laidKinds := [.wider, .wider, .wider, .wider, .data, .data, .data, .data, .sentinel, .sentinel], laidTests := true, laidLooks := .later }
def AsmEitherUptoCardSaid : Prop := Claim7.holds Tryz.pinned (.plain (OpenSpec.upto asmEitherSpec)) asmEitherUptoCard
end Rows
end Go.Proofs.YtjhicjgclbapkaaGreatDoor
