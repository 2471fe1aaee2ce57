/-
  DERIVED. GIVEN WITH THE SEED: THE CARDS: each row of YtlacgaedkjhfhaaGreatDoorRows.lean that lists a variable, with what it lists TIED to the program's text (the seventh form; the later family's looks); each row that meets fmt, with fmt's text TOLD by the authors' own Lean function (tested against real Go, not proved from fmt's source: count such statements apart). THE CARD IS WHAT COUNTS. Prove the row's statement (the work); the ties are given (YtlacgaedkjhfhaaGreatDoorTie.lean); close each card by the builder's one call (the guide's Derived/Test/ToyasCard.lean, 'card_holds'). Laid BY PROGRAM, IN A SANDBOX (cutbox-door.mjs). By AI agents, Wed Nov 11 2026. No macro, syntax, notation, axiom, sorry.
-/
import Derived.Test.YtlacgaedkjhfhaaGreatDoorRows
import GoSem.ClaimSeven
namespace Go.Proofs.YtlacgaedkjhfhaaGreatDoor
namespace Rows

/-- THE TIED CARD OF 'topiarylaw12.MachineRuns'. -/
def machineRunsCard : Claim7 := { stood := { row := machineRunsRow, standIns := [], harness := (true, "d456d6ae2adbd7aec355c2ccfeb3abf8c42d656070272e5b3dbd1df79440c8f3"), looks := true }, kinds := [], alts := [], laidByText := true, laidKinds := [.data, .data, .data, .sentinel, .sentinel], laidTests := true, laidLooks := .later }
def MachineRunsCardSaid : Prop := Claim7.holds Tryz.pinned (.plain (OpenSpec.ofChange machineRunsSpec)) machineRunsCard

/-- THE TIED CARD OF 'topiarylaw12.MachineFuel'. -/
def machineFuelCard : Claim7 := { stood := { row := machineFuelRow, standIns := [], harness := (true, "d456d6ae2adbd7aec355c2ccfeb3abf8c42d656070272e5b3dbd1df79440c8f3"), looks := true }, kinds := [], alts := [], laidByText := true, laidKinds := [.data, .data, .data, .sentinel, .sentinel], laidTests := true, laidLooks := .later }
def MachineFuelCardSaid : Prop := Claim7.holds Tryz.pinned (.plain (OpenSpec.ofChange machineFuelSpec)) machineFuelCard

/-- THE TIED CARD OF 'topiarylaw12.MachineCounts'. -/
def machineCountsCard : Claim7 := { stood := { row := machineCountsRow, standIns := [], harness := (true, "d456d6ae2adbd7aec355c2ccfeb3abf8c42d656070272e5b3dbd1df79440c8f3"), looks := true }, kinds := [], alts := [], laidByText := true, laidKinds := [.data, .data, .data, .sentinel, .sentinel], laidTests := true, laidLooks := .later }
def MachineCountsCardSaid : Prop := Claim7.holds Tryz.pinned (.plain (OpenSpec.ofChange machineCountsSpec)) machineCountsCard

/-- THE SECOND FORM's CARD OF 'topiarylaw12.MachineRuns'. -/
def machineRunsUptoCard : Claim7 := { stood := { row := machineRunsUptoRow, standIns := [], harness := (true, "d456d6ae2adbd7aec355c2ccfeb3abf8c42d656070272e5b3dbd1df79440c8f3"), looks := true }, kinds := [], alts := [], laidByText := true, laidKinds := [.data, .data, .data, .sentinel, .sentinel], laidTests := true, laidLooks := .later }
def MachineRunsUptoCardSaid : Prop := Claim7.holds Tryz.pinned (.plain (OpenSpec.upto machineRunsSpec)) machineRunsUptoCard

/-- THE SECOND FORM's CARD OF 'topiarylaw12.MachineFuel'. -/
def machineFuelUptoCard : Claim7 := { stood := { row := machineFuelUptoRow, standIns := [], harness := (true, "d456d6ae2adbd7aec355c2ccfeb3abf8c42d656070272e5b3dbd1df79440c8f3"), looks := true }, kinds := [], alts := [], laidByText := true, laidKinds := [.data, .data, .data, .sentinel, .sentinel], laidTests := true, laidLooks := .later }
def MachineFuelUptoCardSaid : Prop := Claim7.holds Tryz.pinned (.plain (OpenSpec.upto machineFuelSpec)) machineFuelUptoCard

/-- THE SECOND FORM's CARD OF 'topiarylaw12.MachineCounts'. -/
def machineCountsUptoCard : Claim7 := { stood := { row := machineCountsUptoRow, standIns := [], harness := (true, "d456d6ae2adbd7aec355c2ccfeb3abf8c42d656070272e5b3dbd1df79440c8f3"), looks := true }, kinds := [], alts := [], laidByText := true, laidKinds := [.data, .data, .data, .sentinel, .sentinel], laidTests := true, laidLooks := .later }
def MachineCountsUptoCardSaid : Prop := Claim7.holds Tryz.pinned (.plain (OpenSpec.upto machineCountsSpec)) machineCountsUptoCard
end Rows
end Go.Proofs.YtlacgaedkjhfhaaGreatDoor
