/-
  DERIVED. GIVEN WITH THE SEED: THE CARDS: each row of YtcacldakplomnaaGreatDoorRows.lean that lists a variable, with what it lists TIED to the program's text (the seventh form; the later family's looks); each row that meets fmt, with fmt's text TOLD by the authors' own Lean function (tested against real Go, not proved from fmt's source: count such statements apart). THE CARD IS WHAT COUNTS. Prove the row's statement (the work); the ties are given (YtcacldakplomnaaGreatDoorTie.lean); close each card by the builder's one call (the guide's Derived/Test/ToyasCard.lean, 'card_holds'). Laid BY PROGRAM, IN A SANDBOX (cutbox-door.mjs). By AI agents, Wed Nov 11 2026. No macro, syntax, notation, axiom, sorry.
-/
import Derived.Test.YtcacldakplomnaaGreatDoorRows
import GoSem.ClaimSeven
namespace Go.Proofs.YtcacldakplomnaaGreatDoor
namespace Rows

/-- THE TIED CARD OF 'garretlaw06.ShardMakes'. -/
def shardMakesCard : Claim7 := { stood := { row := shardMakesRow, standIns := [], harness := (true, "ad0db85a4f93e46cfc38050239f1b3f1af0d586c4dcc3a65d2ee144d4202a179"), looks := false }, kinds := [], alts := [], laidByText := true, laidKinds := [.data], laidTests := true, laidLooks := .later }
def ShardMakesCardSaid : Prop := Claim7.holds Tryz.pinned (.plain (OpenSpec.ofChange shardMakesSpec)) shardMakesCard

/-- THE TIED CARD OF 'garretlaw06.ShardGathers'. -/
def shardGathersCard : Claim7 := { stood := { row := shardGathersRow, standIns := [], harness := (true, "ad0db85a4f93e46cfc38050239f1b3f1af0d586c4dcc3a65d2ee144d4202a179"), looks := false }, kinds := [], alts := [], laidByText := true, laidKinds := [.data], laidTests := true, laidLooks := .later }
def ShardGathersCardSaid : Prop := Claim7.holds Tryz.pinned (.plain (OpenSpec.ofChange shardGathersSpec)) shardGathersCard

/-- THE TIED CARD OF 'garretlaw06.ShardWhole'. -/
def shardWholeCard : Claim7 := { stood := { row := shardWholeRow, standIns := [], harness := (true, "ad0db85a4f93e46cfc38050239f1b3f1af0d586c4dcc3a65d2ee144d4202a179"), looks := false }, kinds := [], alts := [], laidByText := true, laidKinds := [.data], laidTests := true, laidLooks := .later }
def ShardWholeCardSaid : Prop := Claim7.holds Tryz.pinned (.plain (OpenSpec.ofChange shardWholeSpec)) shardWholeCard

/-- THE SECOND FORM's CARD OF 'garretlaw06.ShardMakes'. -/
def shardMakesUptoCard : Claim7 := { stood := { row := shardMakesUptoRow, standIns := [], harness := (true, "ad0db85a4f93e46cfc38050239f1b3f1af0d586c4dcc3a65d2ee144d4202a179"), looks := false }, kinds := [], alts := [], laidByText := true, laidKinds := [.data], laidTests := true, laidLooks := .later }
def ShardMakesUptoCardSaid : Prop := Claim7.holds Tryz.pinned (.plain (OpenSpec.upto shardMakesSpec)) shardMakesUptoCard

/-- THE SECOND FORM's CARD OF 'garretlaw06.ShardGathers'. -/
def shardGathersUptoCard : Claim7 := { stood := { row := shardGathersUptoRow, standIns := [], harness := (true, "ad0db85a4f93e46cfc38050239f1b3f1af0d586c4dcc3a65d2ee144d4202a179"), looks := false }, kinds := [], alts := [], laidByText := true, laidKinds := [.data], laidTests := true, laidLooks := .later }
def ShardGathersUptoCardSaid : Prop := Claim7.holds Tryz.pinned (.plain (OpenSpec.upto shardGathersSpec)) shardGathersUptoCard

/-- THE SECOND FORM's CARD OF 'garretlaw06.ShardWhole'. -/
def shardWholeUptoCard : Claim7 := { stood := { row := shardWholeUptoRow, standIns := [], harness := (true, "ad0db85a4f93e46cfc38050239f1b3f1af0d586c4dcc3a65d2ee144d4202a179"), looks := false }, kinds := [], alts := [], laidByText := true, laidKinds := [.data], laidTests := true, laidLooks := .later }
def ShardWholeUptoCardSaid : Prop := Claim7.holds Tryz.pinned (.plain (OpenSpec.upto shardWholeSpec)) shardWholeUptoCard
end Rows
end Go.Proofs.YtcacldakplomnaaGreatDoor
