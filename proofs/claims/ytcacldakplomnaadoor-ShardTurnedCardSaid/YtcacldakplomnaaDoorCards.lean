/-
  DERIVED. GIVEN WITH THE SEED: THE CARDS: each row of YtcacldakplomnaaDoorRows.lean that lists a variable, with what it lists TIED to the program's text (the seventh form; the later family's looks); each row that meets fmt, with fmt's text TOLD by the authors' own Lean function (tested against real Go, not proved from fmt's source: count such statements apart). THE CARD IS WHAT COUNTS. Prove the row's statement (the work); the ties are given (YtcacldakplomnaaDoorTie.lean); close each card by the builder's one call (the guide's Derived/Test/ToyasCard.lean, 'card_holds'). Laid BY PROGRAM, IN A SANDBOX (cutbox-door.mjs). By AI agents, Wed Nov 11 2026. No macro, syntax, notation, axiom, sorry.
-/
import Derived.Test.YtcacldakplomnaaDoorRows
import GoSem.ClaimSeven
namespace Go.Proofs.YtcacldakplomnaaDoor
namespace Rows

/-- THE TIED CARD OF 'garretlaw06.ShardTurned'. -/
def shardTurnedCard : Claim7 := { stood := { row := shardTurnedRow, standIns := [], harness := (true, "332cdb854e12344a9570e2002cb81e7c9c19fdde5d99d8bf3dea3e2408b97c27"), looks := false }, kinds := [], alts := [], laidByText := true, laidKinds := [.data], laidTests := true, laidLooks := .later }
def ShardTurnedCardSaid : Prop := Claim7.holds Tryd.pinned (.plain (OpenSpec.ofChange shardTurnedSpec)) shardTurnedCard

/-- THE SECOND FORM's CARD OF 'garretlaw06.ShardTurned'. -/
def shardTurnedUptoCard : Claim7 := { stood := { row := shardTurnedUptoRow, standIns := [], harness := (true, "332cdb854e12344a9570e2002cb81e7c9c19fdde5d99d8bf3dea3e2408b97c27"), looks := false }, kinds := [], alts := [], laidByText := true, laidKinds := [.data], laidTests := true, laidLooks := .later }
def ShardTurnedUptoCardSaid : Prop := Claim7.holds Tryd.pinned (.plain (OpenSpec.upto shardTurnedSpec)) shardTurnedUptoCard
end Rows
end Go.Proofs.YtcacldakplomnaaDoor
