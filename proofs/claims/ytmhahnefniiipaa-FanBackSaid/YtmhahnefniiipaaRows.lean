/-
  No cell of these rows narrows 'for every input' (looked for: loops, veiled, ifaces, maps, wideKeys, modest, calm, conditions, laid).
  DERIVED. THE GIVEN ROWS OF THIS SEAT. 8 by the template 'for every input the law returns true; each argument reads behind the call as it read before'; 0 by the template 'total and deterministic' (their statements: YtmhahnefniiipaaTotals.lean).
  GIVEN WITH THE SEED: the statements are not yours to turn. If you find one false, say at which input.
  Laid BY PROGRAM, IN A SANDBOX (cutbox-rows.mjs): the forced cells as the released guide's own fill.sh prints them over the translation 5b1bb8fcb5570569… (all of the seat's roots in one cut). By AI agents, Wed Nov 11 2026. No macro, syntax, notation, axiom, sorry.
-/
import Derived.Test.YtmhahnefniiipaaChecked
import GoSem.Claim
import GoSem.ClaimJoined
import GoSem.ClaimMapViews
import Derived.JoinedTies
import Derived.KernelRfl
namespace Go.Proofs.Ytmhahnefniiipaa
/- THE CELL 'sum', in the pinned program and in every row, IS THE sha256 OF THE DUMP (.gsa) THAT YtmhahnefniiipaaProg.lean LOADS. Nothing in Lean hashes anything: it is a label: what it is worth is what the hold of that sum in a sandbox is worth. -/
noncomputable def Try.pinned : Pinned := { name := "ytmhahnefniiipaa", sum := "5b1bb8fcb557056967911de36a2dc72602445c7b995be4003051819e7b7950c7", checked := Try.checked }
namespace Rows
def none {H : Type} : Left H := { results := [], args := [] }

/-- 'garretlaw07.StoreLists': WHATEVER THE INPUT: true; the input reads as it did. -/
def storeListsSpec : ChangeSpec := { name := "storeLists", fn := fun _ => fun
  | [d1, d2] => { results := [.lit (.bool true)], args := [d1, d2] }
  | _ => none }
def storeListsRow : OpenClaim := { program := "ytmhahnefniiipaa", sum := "5b1bb8fcb557056967911de36a2dc72602445c7b995be4003051819e7b7950c7", func := "garret/garretlaw07.StoreLists", spec := "storeLists", inPlace := ["sync/atomic.AddInt64"], unfollowed := true, recurses := true, apart := false }
def StoreListsSaid : Prop := storeListsRow.holds Try.pinned (OpenSpec.ofChange storeListsSpec)

/-- ITS FALSE NEIGHBOUR: 'it returns false'. Refute it at one input. -/
def storeListsWrong : ChangeSpec := { name := "storeLists", fn := fun _ => fun
  | [d1, d2] => { results := [.lit (.bool false)], args := [d1, d2] }
  | _ => none }
def StoreListsWrongFalsely : Prop := storeListsRow.holds Try.pinned (OpenSpec.ofChange storeListsWrong)

/-- 'garretlaw07.StorePlays': WHATEVER THE INPUT: true; the input reads as it did. -/
def storePlaysSpec : ChangeSpec := { name := "storePlays", fn := fun _ => fun
  | [d1, d2] => { results := [.lit (.bool true)], args := [d1, d2] }
  | _ => none }
def storePlaysRow : OpenClaim := { program := "ytmhahnefniiipaa", sum := "5b1bb8fcb557056967911de36a2dc72602445c7b995be4003051819e7b7950c7", func := "garret/garretlaw07.StorePlays", spec := "storePlays", inPlace := ["sync/atomic.AddInt64", "maps.clone", "sync/atomic.LoadInt64", "sync/atomic.StoreInt64"], unfollowed := true, recurses := true, apart := false }
def StorePlaysSaid : Prop := storePlaysRow.holds Try.pinned (OpenSpec.ofChange storePlaysSpec)

/-- ITS FALSE NEIGHBOUR: 'it returns false'. Refute it at one input. -/
def storePlaysWrong : ChangeSpec := { name := "storePlays", fn := fun _ => fun
  | [d1, d2] => { results := [.lit (.bool false)], args := [d1, d2] }
  | _ => none }
def StorePlaysWrongFalsely : Prop := storePlaysRow.holds Try.pinned (OpenSpec.ofChange storePlaysWrong)

/-- 'garretlaw08.PortLists': WHATEVER THE INPUT: true; the input reads as it did. -/
def portListsSpec : ChangeSpec := { name := "portLists", fn := fun _ => fun
  | [d1, d2] => { results := [.lit (.bool true)], args := [d1, d2] }
  | _ => none }
def portListsRow : OpenClaim := { program := "ytmhahnefniiipaa", sum := "5b1bb8fcb557056967911de36a2dc72602445c7b995be4003051819e7b7950c7", func := "garret/garretlaw08.PortLists", spec := "portLists", inPlace := ["sync/atomic.AddInt64"], unfollowed := true, recurses := true, apart := false }
def PortListsSaid : Prop := portListsRow.holds Try.pinned (OpenSpec.ofChange portListsSpec)

/-- ITS FALSE NEIGHBOUR: 'it returns false'. Refute it at one input. -/
def portListsWrong : ChangeSpec := { name := "portLists", fn := fun _ => fun
  | [d1, d2] => { results := [.lit (.bool false)], args := [d1, d2] }
  | _ => none }
def PortListsWrongFalsely : Prop := portListsRow.holds Try.pinned (OpenSpec.ofChange portListsWrong)

/-- 'garretlaw08.PortTurns': WHATEVER THE INPUT: true; the input reads as it did. -/
def portTurnsSpec : ChangeSpec := { name := "portTurns", fn := fun _ => fun
  | [d1, d2, d3] => { results := [.lit (.bool true)], args := [d1, d2, d3] }
  | _ => none }
def portTurnsRow : OpenClaim := { program := "ytmhahnefniiipaa", sum := "5b1bb8fcb557056967911de36a2dc72602445c7b995be4003051819e7b7950c7", func := "garret/garretlaw08.PortTurns", spec := "portTurns", inPlace := ["sync/atomic.AddInt64"], unfollowed := true, recurses := true, apart := false }
def PortTurnsSaid : Prop := portTurnsRow.holds Try.pinned (OpenSpec.ofChange portTurnsSpec)

/-- ITS FALSE NEIGHBOUR: 'it returns false'. Refute it at one input. -/
def portTurnsWrong : ChangeSpec := { name := "portTurns", fn := fun _ => fun
  | [d1, d2, d3] => { results := [.lit (.bool false)], args := [d1, d2, d3] }
  | _ => none }
def PortTurnsWrongFalsely : Prop := portTurnsRow.holds Try.pinned (OpenSpec.ofChange portTurnsWrong)

/-- 'garretlaw08.PortAsks': WHATEVER THE INPUT: true; the input reads as it did. -/
def portAsksSpec : ChangeSpec := { name := "portAsks", fn := fun _ => fun
  | [d] => { results := [.lit (.bool true)], args := [d] }
  | _ => none }
def portAsksRow : OpenClaim := { program := "ytmhahnefniiipaa", sum := "5b1bb8fcb557056967911de36a2dc72602445c7b995be4003051819e7b7950c7", func := "garret/garretlaw08.PortAsks", spec := "portAsks", inPlace := ["sync/atomic.AddInt64"], unfollowed := true, recurses := true, apart := false }
def PortAsksSaid : Prop := portAsksRow.holds Try.pinned (OpenSpec.ofChange portAsksSpec)

/-- ITS FALSE NEIGHBOUR: 'it returns false'. Refute it at one input. -/
def portAsksWrong : ChangeSpec := { name := "portAsks", fn := fun _ => fun
  | [d] => { results := [.lit (.bool false)], args := [d] }
  | _ => none }
def PortAsksWrongFalsely : Prop := portAsksRow.holds Try.pinned (OpenSpec.ofChange portAsksWrong)

/-- 'garretlaw08.PortRuns': WHATEVER THE INPUT: true; the input reads as it did. -/
def portRunsSpec : ChangeSpec := { name := "portRuns", fn := fun _ => fun
  | [d1, d2] => { results := [.lit (.bool true)], args := [d1, d2] }
  | _ => none }
def portRunsRow : OpenClaim := { program := "ytmhahnefniiipaa", sum := "5b1bb8fcb557056967911de36a2dc72602445c7b995be4003051819e7b7950c7", func := "garret/garretlaw08.PortRuns", spec := "portRuns", inPlace := ["sync/atomic.AddInt64"], unfollowed := true, recurses := true, apart := false }
def PortRunsSaid : Prop := portRunsRow.holds Try.pinned (OpenSpec.ofChange portRunsSpec)

/-- ITS FALSE NEIGHBOUR: 'it returns false'. Refute it at one input. -/
def portRunsWrong : ChangeSpec := { name := "portRuns", fn := fun _ => fun
  | [d1, d2] => { results := [.lit (.bool false)], args := [d1, d2] }
  | _ => none }
def PortRunsWrongFalsely : Prop := portRunsRow.holds Try.pinned (OpenSpec.ofChange portRunsWrong)

/-- 'garretlaw09.FanFirst': WHATEVER THE INPUT: true; the input reads as it did. -/
def fanFirstSpec : ChangeSpec := { name := "fanFirst", fn := fun _ => fun
  | [d1, d2] => { results := [.lit (.bool true)], args := [d1, d2] }
  | _ => none }
def fanFirstRow : OpenClaim := { program := "ytmhahnefniiipaa", sum := "5b1bb8fcb557056967911de36a2dc72602445c7b995be4003051819e7b7950c7", func := "garret/garretlaw09.FanFirst", spec := "fanFirst", inPlace := ["sync/atomic.AddInt64"], unfollowed := true, recurses := true, apart := false }
def FanFirstSaid : Prop := fanFirstRow.holds Try.pinned (OpenSpec.ofChange fanFirstSpec)

/-- ITS FALSE NEIGHBOUR: 'it returns false'. Refute it at one input. -/
def fanFirstWrong : ChangeSpec := { name := "fanFirst", fn := fun _ => fun
  | [d1, d2] => { results := [.lit (.bool false)], args := [d1, d2] }
  | _ => none }
def FanFirstWrongFalsely : Prop := fanFirstRow.holds Try.pinned (OpenSpec.ofChange fanFirstWrong)

/-- 'garretlaw09.FanBack': WHATEVER THE INPUT: true; the input reads as it did. -/
def fanBackSpec : ChangeSpec := { name := "fanBack", fn := fun _ => fun
  | [d1, d2] => { results := [.lit (.bool true)], args := [d1, d2] }
  | _ => none }
def fanBackRow : OpenClaim := { program := "ytmhahnefniiipaa", sum := "5b1bb8fcb557056967911de36a2dc72602445c7b995be4003051819e7b7950c7", func := "garret/garretlaw09.FanBack", spec := "fanBack", inPlace := ["sync/atomic.AddInt64"], unfollowed := true, recurses := true, apart := false }
def FanBackSaid : Prop := fanBackRow.holds Try.pinned (OpenSpec.ofChange fanBackSpec)

/-- ITS FALSE NEIGHBOUR: 'it returns false'. Refute it at one input. -/
def fanBackWrong : ChangeSpec := { name := "fanBack", fn := fun _ => fun
  | [d1, d2] => { results := [.lit (.bool false)], args := [d1, d2] }
  | _ => none }
def FanBackWrongFalsely : Prop := fanBackRow.holds Try.pinned (OpenSpec.ofChange fanBackWrong)

/- THE SECOND FORM. 'bulk': how many values and letters a reading holds, each counted each time it is reached (what is shared counts as often as it is met; a slice's spare places count too). A statement '..UptoSaid' is the law's where the arguments, and the package variables that the reading takes, are together of bulk at most 1048576: NARROWER than '..Said'. Prove '..Said' where nothing that the law and all that it calls make is longer than what came in: it says more and counts as full. Else prove '..UptoSaid'. A law counts once. -/
mutual
def uptoBulk {H : Type} : DataW H → Nat
  | .lit (.string bytes) => bytes.length + 1
  | .lit _ => 1
  | .nil => 1
  | .ptr d => uptoBulk d + 1
  | .slice elems spare => uptoBulkAll elems + uptoBulkAll spare + 1
  | .agg parts => uptoBulkAll parts + 1
  | .iface _ d => uptoBulk d + 1
  | .map entries => uptoBulkEntries entries + 1
  | .held _ => 1
def uptoBulkAll {H : Type} : List (DataW H) → Nat
  | [] => 0
  | d :: r => uptoBulk d + uptoBulkAll r
def uptoBulkEntries {H : Type} : List (Lit × DataW H) → Nat
  | [] => 0
  | x :: r => uptoBulkEntry x + uptoBulkEntries r
def uptoBulkEntry {H : Type} : Lit × DataW H → Nat
  | (.string bytes, d) => bytes.length + uptoBulk d + 1
  | (_, d) => uptoBulk d + 1
 end
def uptoSmall : (H : Type) → List (DataW H) → Bool := fun _ ds => decide (uptoBulkAll ds ≤ 1048576)
def OpenSpec.upto (s : _root_.Go.ChangeSpec) : _root_.Go.OpenSpec := { _root_.Go.OpenSpec.ofChange s with cond := some uptoSmall }

/-- 'garretlaw07.StoreLists', WHERE WHAT IT READS IS OF BULK AT MOST 1048576: true; the input reads as it did. -/
def storeListsUptoRow : OpenClaim := { program := "ytmhahnefniiipaa", sum := "5b1bb8fcb557056967911de36a2dc72602445c7b995be4003051819e7b7950c7", func := "garret/garretlaw07.StoreLists", spec := "storeLists", inPlace := ["sync/atomic.AddInt64"], unfollowed := true, recurses := true, apart := false, narrowed := true }
def StoreListsUptoSaid : Prop := storeListsUptoRow.holds Try.pinned (OpenSpec.upto storeListsSpec)

/-- 'garretlaw07.StorePlays', WHERE WHAT IT READS IS OF BULK AT MOST 1048576: true; the input reads as it did. -/
def storePlaysUptoRow : OpenClaim := { program := "ytmhahnefniiipaa", sum := "5b1bb8fcb557056967911de36a2dc72602445c7b995be4003051819e7b7950c7", func := "garret/garretlaw07.StorePlays", spec := "storePlays", inPlace := ["sync/atomic.AddInt64", "maps.clone", "sync/atomic.LoadInt64", "sync/atomic.StoreInt64"], unfollowed := true, recurses := true, apart := false, narrowed := true }
def StorePlaysUptoSaid : Prop := storePlaysUptoRow.holds Try.pinned (OpenSpec.upto storePlaysSpec)

/-- 'garretlaw08.PortLists', WHERE WHAT IT READS IS OF BULK AT MOST 1048576: true; the input reads as it did. -/
def portListsUptoRow : OpenClaim := { program := "ytmhahnefniiipaa", sum := "5b1bb8fcb557056967911de36a2dc72602445c7b995be4003051819e7b7950c7", func := "garret/garretlaw08.PortLists", spec := "portLists", inPlace := ["sync/atomic.AddInt64"], unfollowed := true, recurses := true, apart := false, narrowed := true }
def PortListsUptoSaid : Prop := portListsUptoRow.holds Try.pinned (OpenSpec.upto portListsSpec)

/-- 'garretlaw08.PortTurns', WHERE WHAT IT READS IS OF BULK AT MOST 1048576: true; the input reads as it did. -/
def portTurnsUptoRow : OpenClaim := { program := "ytmhahnefniiipaa", sum := "5b1bb8fcb557056967911de36a2dc72602445c7b995be4003051819e7b7950c7", func := "garret/garretlaw08.PortTurns", spec := "portTurns", inPlace := ["sync/atomic.AddInt64"], unfollowed := true, recurses := true, apart := false, narrowed := true }
def PortTurnsUptoSaid : Prop := portTurnsUptoRow.holds Try.pinned (OpenSpec.upto portTurnsSpec)

/-- 'garretlaw08.PortAsks', WHERE WHAT IT READS IS OF BULK AT MOST 1048576: true; the input reads as it did. -/
def portAsksUptoRow : OpenClaim := { program := "ytmhahnefniiipaa", sum := "5b1bb8fcb557056967911de36a2dc72602445c7b995be4003051819e7b7950c7", func := "garret/garretlaw08.PortAsks", spec := "portAsks", inPlace := ["sync/atomic.AddInt64"], unfollowed := true, recurses := true, apart := false, narrowed := true }
def PortAsksUptoSaid : Prop := portAsksUptoRow.holds Try.pinned (OpenSpec.upto portAsksSpec)

/-- 'garretlaw08.PortRuns', WHERE WHAT IT READS IS OF BULK AT MOST 1048576: true; the input reads as it did. -/
def portRunsUptoRow : OpenClaim := { program := "ytmhahnefniiipaa", sum := "5b1bb8fcb557056967911de36a2dc72602445c7b995be4003051819e7b7950c7", func := "garret/garretlaw08.PortRuns", spec := "portRuns", inPlace := ["sync/atomic.AddInt64"], unfollowed := true, recurses := true, apart := false, narrowed := true }
def PortRunsUptoSaid : Prop := portRunsUptoRow.holds Try.pinned (OpenSpec.upto portRunsSpec)

/-- 'garretlaw09.FanFirst', WHERE WHAT IT READS IS OF BULK AT MOST 1048576: true; the input reads as it did. -/
def fanFirstUptoRow : OpenClaim := { program := "ytmhahnefniiipaa", sum := "5b1bb8fcb557056967911de36a2dc72602445c7b995be4003051819e7b7950c7", func := "garret/garretlaw09.FanFirst", spec := "fanFirst", inPlace := ["sync/atomic.AddInt64"], unfollowed := true, recurses := true, apart := false, narrowed := true }
def FanFirstUptoSaid : Prop := fanFirstUptoRow.holds Try.pinned (OpenSpec.upto fanFirstSpec)

/-- 'garretlaw09.FanBack', WHERE WHAT IT READS IS OF BULK AT MOST 1048576: true; the input reads as it did. -/
def fanBackUptoRow : OpenClaim := { program := "ytmhahnefniiipaa", sum := "5b1bb8fcb557056967911de36a2dc72602445c7b995be4003051819e7b7950c7", func := "garret/garretlaw09.FanBack", spec := "fanBack", inPlace := ["sync/atomic.AddInt64"], unfollowed := true, recurses := true, apart := false, narrowed := true }
def FanBackUptoSaid : Prop := fanBackUptoRow.holds Try.pinned (OpenSpec.upto fanBackSpec)

end Rows
end Go.Proofs.Ytmhahnefniiipaa
