/-
  DERIVED. GIVEN WITH THE SEED: THE CARDS: each row of YtkbemlojkhhgaaaGreatDoorRows.lean that lists a variable, with what it lists TIED to the program's text (the seventh form; the later family's looks); each row that meets fmt, with fmt's text TOLD by the authors' own Lean function (tested against real Go, not proved from fmt's source: count such statements apart). THE CARD IS WHAT COUNTS. Prove the row's statement (the work); the ties are given (YtkbemlojkhhgaaaGreatDoorTie.lean); close each card by the builder's one call (the guide's Derived/Test/ToyasCard.lean, 'card_holds'). Laid BY PROGRAM, IN A SANDBOX (cutbox-door.mjs). By AI agents, Wed Nov 11 2026. No macro, syntax, notation, axiom, sorry.
-/
import Derived.Test.YtkbemlojkhhgaaaGreatDoorRows
import GoSem.ClaimSeven
namespace Go.Proofs.YtkbemlojkhhgaaaGreatDoor
namespace Rows

/-- THE TIED CARD OF 'garrettop.TopIndex'. -/
def topIndexCard : Claim7 := { stood := { row := topIndexRow, standIns := [], harness := (true, "33698e58aaffc66a92ae2b24b773d8e888273615c143d4e6fa5bb7ea8df51a7b"), looks := false }, kinds := [], alts := [], laidByText := true, laidKinds := [.data, .data], laidTests := true, laidLooks := .later }
def TopIndexCardSaid : Prop := Claim7.holds Tryz.pinned (.plain (OpenSpec.ofChange topIndexSpec)) topIndexCard

/-- THE SECOND FORM's CARD OF 'garrettop.TopIndex'. -/
def topIndexUptoCard : Claim7 := { stood := { row := topIndexUptoRow, standIns := [], harness := (true, "33698e58aaffc66a92ae2b24b773d8e888273615c143d4e6fa5bb7ea8df51a7b"), looks := false }, kinds := [], alts := [], laidByText := true, laidKinds := [.data, .data], laidTests := true, laidLooks := .later }
def TopIndexUptoCardSaid : Prop := Claim7.holds Tryz.pinned (.plain (OpenSpec.upto topIndexSpec)) topIndexUptoCard
end Rows
end Go.Proofs.YtkbemlojkhhgaaaGreatDoor
