/-
  DERIVED. GIVEN WITH THE SEED: THE CARDS: each row of YticakdhfjeljkaaGreatDoorRows.lean that lists a variable, with what it lists TIED to the program's text (the seventh form; the later family's looks); each row that meets fmt, with fmt's text TOLD by the authors' own Lean function (tested against real Go, not proved from fmt's source: count such statements apart). THE CARD IS WHAT COUNTS. Prove the row's statement (the work); the ties are given (YticakdhfjeljkaaGreatDoorTie.lean); close each card by the builder's one call (the guide's Derived/Test/ToyasCard.lean, 'card_holds'). Laid BY PROGRAM, IN A SANDBOX (cutbox-door.mjs). By AI agents, Wed Nov 11 2026. No macro, syntax, notation, axiom, sorry.
-/
import Derived.Test.YticakdhfjeljkaaGreatDoorRows
import GoSem.ClaimSeven
namespace Go.Proofs.YticakdhfjeljkaaGreatDoor
namespace Rows

/-- THE TIED CARD OF 'topiarylaw10.DenoteValues'. -/
def denoteValuesCard : Claim7 := { stood := { row := denoteValuesRow, standIns := [], harness := (true, "ea4a072405e1171d24c81672c42131b4303e7b3aa444ccc7366ed29d39a2179b"), looks := true }, kinds := [], alts := [], laidByText := true, laidKinds := [.data, .data, .data, .sentinel, .sentinel, .widerDeep], laidTests := true, laidLooks := .later }
def DenoteValuesCardSaid : Prop := Claim7.holds Tryz.pinned (.plain (OpenSpec.ofChange denoteValuesSpec)) denoteValuesCard

/-- THE SECOND FORM's CARD OF 'topiarylaw10.DenoteValues'. -/
def denoteValuesUptoCard : Claim7 := { stood := { row := denoteValuesUptoRow, standIns := [], harness := (true, "ea4a072405e1171d24c81672c42131b4303e7b3aa444ccc7366ed29d39a2179b"), looks := true }, kinds := [], alts := [], laidByText := true, laidKinds := [.data, .data, .data, .sentinel, .sentinel, .widerDeep], laidTests := true, laidLooks := .later }
def DenoteValuesUptoCardSaid : Prop := Claim7.holds Tryz.pinned (.plain (OpenSpec.upto denoteValuesSpec)) denoteValuesUptoCard
end Rows
end Go.Proofs.YticakdhfjeljkaaGreatDoor
