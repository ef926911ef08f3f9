/-
  No cell of these rows narrows 'for every input' (looked for: loops, veiled, ifaces, maps, wideKeys, modest, calm, conditions, laid).
  DERIVED. THE GIVEN ROWS OF THIS SEAT. 2 by the template 'for every input the law returns true; each argument reads behind the call as it read before'; 0 by the template 'total and deterministic' (their statements: YtmhahnefniiipaaGreatTotals.lean).
  GIVEN WITH THE SEED: the statements are not yours to turn. If you find one false, say at which input.
  Laid BY PROGRAM, IN A SANDBOX (cutbox-rows.mjs): the forced cells as the released guide's own fill.sh prints them over the translation 3d664f8ae2b312db… (all of the seat's roots in one cut). By AI agents, Wed Nov 11 2026. No macro, syntax, notation, axiom, sorry.
-/
import Derived.Test.YtmhahnefniiipaaGreatChecked
import GoSem.Claim
import GoSem.ClaimJoined
import GoSem.ClaimMapViews
import Derived.JoinedTies
import Derived.KernelRfl
namespace Go.Proofs.YtmhahnefniiipaaGreat
/- THE CELL 'sum', in the pinned program and in every row, IS THE sha256 OF THE DUMP (.gsa) THAT YtmhahnefniiipaaGreatProg.lean LOADS. Nothing in Lean hashes anything: it is a label: what it is worth is what the hold of that sum in a sandbox is worth. -/
noncomputable def Tryz.pinned : Pinned := { name := "ytmhahnefniiipaagreat", sum := "3d664f8ae2b312db2164031d501c9448ad306cb225e3a9322948d4372756b9ad", checked := Tryz.checked }
namespace Rows
def none {H : Type} : Left H := { results := [], args := [] }

/-- 'garretlaw09.FanCalls': WHATEVER THE INPUT: true; the input reads as it did. -/
def fanCallsSpec : ChangeSpec := { name := "fanCalls", fn := fun _ => fun
  | [d1, d2, d3] => { results := [.lit (.bool true)], args := [d1, d2, d3] }
  | _ => none }
def fanCallsRow : OpenClaim := { program := "ytmhahnefniiipaagreat", sum := "3d664f8ae2b312db2164031d501c9448ad306cb225e3a9322948d4372756b9ad", func := "garret/garretlaw09.FanCalls", spec := "fanCalls", inPlace := ["sync/atomic.AddInt64"], unfollowed := true, recurses := true, apart := false }
def FanCallsSaid : Prop := fanCallsRow.holds Tryz.pinned (OpenSpec.ofChange fanCallsSpec)

/-- ITS FALSE NEIGHBOUR: 'it returns false'. Refute it at one input. -/
def fanCallsWrong : ChangeSpec := { name := "fanCalls", fn := fun _ => fun
  | [d1, d2, d3] => { results := [.lit (.bool false)], args := [d1, d2, d3] }
  | _ => none }
def FanCallsWrongFalsely : Prop := fanCallsRow.holds Tryz.pinned (OpenSpec.ofChange fanCallsWrong)

/-- 'garretlaw09.FanPlays': WHATEVER THE INPUT: true; the input reads as it did. -/
def fanPlaysSpec : ChangeSpec := { name := "fanPlays", fn := fun _ => fun
  | [d] => { results := [.lit (.bool true)], args := [d] }
  | _ => none }
def fanPlaysRow : OpenClaim := { program := "ytmhahnefniiipaagreat", sum := "3d664f8ae2b312db2164031d501c9448ad306cb225e3a9322948d4372756b9ad", func := "garret/garretlaw09.FanPlays", spec := "fanPlays", inPlace := ["sync/atomic.AddInt64", "sync/atomic.LoadInt64"], unfollowed := true, recurses := true, apart := false }
def FanPlaysSaid : Prop := fanPlaysRow.holds Tryz.pinned (OpenSpec.ofChange fanPlaysSpec)

/-- ITS FALSE NEIGHBOUR: 'it returns false'. Refute it at one input. -/
def fanPlaysWrong : ChangeSpec := { name := "fanPlays", fn := fun _ => fun
  | [d] => { results := [.lit (.bool false)], args := [d] }
  | _ => none }
def FanPlaysWrongFalsely : Prop := fanPlaysRow.holds Tryz.pinned (OpenSpec.ofChange fanPlaysWrong)

/- THE SECOND FORM. 'bulk': how many values and letters a reading holds, each counted each time it is reached (what is shared counts as often as it is met; a slice's spare places count too). A statement '..UptoSaid' is the law's where the arguments, and the package variables that the reading takes, are together of bulk at most 1048576: NARROWER than '..Said'. Prove '..Said' where nothing that the law and all that it calls make is longer than what came in: it says more and counts as full. Else prove '..UptoSaid'. A law counts once. -/
mutual
def uptoBulk {H : Type} : DataW H → Nat
  | .lit (.string bytes) => bytes.length + 1
  | .lit _ => 1
  | .nil => 1
  | .ptr d => uptoBulk d + 1
  | .slice elems spare => uptoBulkAll elems + uptoBulkAll spare + 1
  | .agg parts => uptoBulkAll parts + 1
  | .iface _ d => uptoBulk d + 1
  | .map entries => uptoBulkEntries entries + 1
  | .held _ => 1
def uptoBulkAll {H : Type} : List (DataW H) → Nat
  | [] => 0
  | d :: r => uptoBulk d + uptoBulkAll r
def uptoBulkEntries {H : Type} : List (Lit × DataW H) → Nat
  | [] => 0
  | x :: r => uptoBulkEntry x + uptoBulkEntries r
def uptoBulkEntry {H : Type} : Lit × DataW H → Nat
  | (.string bytes, d) => bytes.length + uptoBulk d + 1
  | (_, d) => uptoBulk d + 1
 end
def uptoSmall : (H : Type) → List (DataW H) → Bool := fun _ ds => decide (uptoBulkAll ds ≤ 1048576)
def OpenSpec.upto (s : _root_.Go.ChangeSpec) : _root_.Go.OpenSpec := { _root_.Go.OpenSpec.ofChange s with cond := some uptoSmall }

/-- 'garretlaw09.FanCalls', WHERE WHAT IT READS IS OF BULK AT MOST 1048576: true; the input reads as it did. -/
def fanCallsUptoRow : OpenClaim := { program := "ytmhahnefniiipaagreat", sum := "3d664f8ae2b312db2164031d501c9448ad306cb225e3a9322948d4372756b9ad", func := "garret/garretlaw09.FanCalls", spec := "fanCalls", inPlace := ["sync/atomic.AddInt64"], unfollowed := true, recurses := true, apart := false, narrowed := true }
def FanCallsUptoSaid : Prop := fanCallsUptoRow.holds Tryz.pinned (OpenSpec.upto fanCallsSpec)

/-- 'garretlaw09.FanPlays', WHERE WHAT IT READS IS OF BULK AT MOST 1048576: true; the input reads as it did. -/
def fanPlaysUptoRow : OpenClaim := { program := "ytmhahnefniiipaagreat", sum := "3d664f8ae2b312db2164031d501c9448ad306cb225e3a9322948d4372756b9ad", func := "garret/garretlaw09.FanPlays", spec := "fanPlays", inPlace := ["sync/atomic.AddInt64", "sync/atomic.LoadInt64"], unfollowed := true, recurses := true, apart := false, narrowed := true }
def FanPlaysUptoSaid : Prop := fanPlaysUptoRow.holds Tryz.pinned (OpenSpec.upto fanPlaysSpec)

end Rows
end Go.Proofs.YtmhahnefniiipaaGreat
