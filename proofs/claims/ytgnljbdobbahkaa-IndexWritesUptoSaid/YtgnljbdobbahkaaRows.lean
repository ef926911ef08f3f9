/-
  No cell of these rows narrows 'for every input' (looked for: loops, veiled, ifaces, maps, wideKeys, modest, calm, conditions, laid).
  DERIVED. THE GIVEN ROWS OF THIS SEAT. 6 by the template 'for every input the law returns true; each argument reads behind the call as it read before'; 0 by the template 'total and deterministic' (their statements: YtgnljbdobbahkaaTotals.lean).
  GIVEN WITH THE SEED: the statements are not yours to turn. If you find one false, say at which input.
  Laid BY PROGRAM, IN A SANDBOX (cutbox-rows.mjs): the forced cells as the released guide's own fill.sh prints them over the translation 3be9090b51bcbd66… (all of the seat's roots in one cut). By AI agents, Wed Nov 11 2026. No macro, syntax, notation, axiom, sorry.
-/
import Derived.Test.YtgnljbdobbahkaaChecked
import GoSem.Claim
import GoSem.ClaimJoined
import GoSem.ClaimMapViews
import Derived.JoinedTies
import Derived.KernelRfl
namespace Go.Proofs.Ytgnljbdobbahkaa
/- THE CELL 'sum', in the pinned program and in every row, IS THE sha256 OF THE DUMP (.gsa) THAT YtgnljbdobbahkaaProg.lean LOADS. Nothing in Lean hashes anything: it is a label: what it is worth is what the hold of that sum in a sandbox is worth. -/
noncomputable def Try.pinned : Pinned := { name := "ytgnljbdobbahkaa", sum := "3be9090b51bcbd665760c64dbc810da09877668f6e5f633383dca284242db4c8", checked := Try.checked }
namespace Rows
def none {H : Type} : Left H := { results := [], args := [] }

/-- 'garretlaw16.IndexWrites': WHATEVER THE INPUT: true; the input reads as it did. -/
def indexWritesSpec : ChangeSpec := { name := "indexWrites", fn := fun _ => fun
  | [d1, d2, d3] => { results := [.lit (.bool true)], args := [d1, d2, d3] }
  | _ => none }
def indexWritesRow : OpenClaim := { program := "ytgnljbdobbahkaa", sum := "3be9090b51bcbd665760c64dbc810da09877668f6e5f633383dca284242db4c8", func := "garret/garretlaw16.IndexWrites", spec := "indexWrites", inPlace := ["internal/abi.NoEscape", "internal/bytealg.IndexByteString"], unfollowed := true, recurses := true, apart := false }
def IndexWritesSaid : Prop := indexWritesRow.holds Try.pinned (OpenSpec.ofChange indexWritesSpec)

/-- ITS FALSE NEIGHBOUR: 'it returns false'. Refute it at one input. -/
def indexWritesWrong : ChangeSpec := { name := "indexWrites", fn := fun _ => fun
  | [d1, d2, d3] => { results := [.lit (.bool false)], args := [d1, d2, d3] }
  | _ => none }
def IndexWritesWrongFalsely : Prop := indexWritesRow.holds Try.pinned (OpenSpec.ofChange indexWritesWrong)

/-- 'garretlaw16.IndexBack': WHATEVER THE INPUT: true; the input reads as it did. -/
def indexBackSpec : ChangeSpec := { name := "indexBack", fn := fun _ => fun
  | [d1, d2, d3] => { results := [.lit (.bool true)], args := [d1, d2, d3] }
  | _ => none }
def indexBackRow : OpenClaim := { program := "ytgnljbdobbahkaa", sum := "3be9090b51bcbd665760c64dbc810da09877668f6e5f633383dca284242db4c8", func := "garret/garretlaw16.IndexBack", spec := "indexBack", inPlace := ["internal/abi.NoEscape", "internal/bytealg.MakeNoZero", "slices.overlaps[garret/api.Item]"], unfollowed := true, recurses := true, apart := false }
def IndexBackSaid : Prop := indexBackRow.holds Try.pinned (OpenSpec.ofChange indexBackSpec)

/-- ITS FALSE NEIGHBOUR: 'it returns false'. Refute it at one input. -/
def indexBackWrong : ChangeSpec := { name := "indexBack", fn := fun _ => fun
  | [d1, d2, d3] => { results := [.lit (.bool false)], args := [d1, d2, d3] }
  | _ => none }
def IndexBackWrongFalsely : Prop := indexBackRow.holds Try.pinned (OpenSpec.ofChange indexBackWrong)

/-- 'garretlaw15.LookupOrders': WHATEVER THE INPUT: true; the input reads as it did. -/
def lookupOrdersSpec : ChangeSpec := { name := "lookupOrders", fn := fun _ => fun
  | [d1, d2] => { results := [.lit (.bool true)], args := [d1, d2] }
  | _ => none }
def lookupOrdersRow : OpenClaim := { program := "ytgnljbdobbahkaa", sum := "3be9090b51bcbd665760c64dbc810da09877668f6e5f633383dca284242db4c8", func := "garret/garretlaw15.LookupOrders", spec := "lookupOrders", inPlace := ["internal/abi.NoEscape", "internal/bytealg.MakeNoZero", "slices.overlaps[garret/api.Item]"], unfollowed := true, recurses := true, apart := false }
def LookupOrdersSaid : Prop := lookupOrdersRow.holds Try.pinned (OpenSpec.ofChange lookupOrdersSpec)

/-- ITS FALSE NEIGHBOUR: 'it returns false'. Refute it at one input. -/
def lookupOrdersWrong : ChangeSpec := { name := "lookupOrders", fn := fun _ => fun
  | [d1, d2] => { results := [.lit (.bool false)], args := [d1, d2] }
  | _ => none }
def LookupOrdersWrongFalsely : Prop := lookupOrdersRow.holds Try.pinned (OpenSpec.ofChange lookupOrdersWrong)

/-- 'garretlaw15.LookupOne': WHATEVER THE INPUT: true; the input reads as it did. -/
def lookupOneSpec : ChangeSpec := { name := "lookupOne", fn := fun _ => fun
  | [d1, d2, d3] => { results := [.lit (.bool true)], args := [d1, d2, d3] }
  | _ => none }
def lookupOneRow : OpenClaim := { program := "ytgnljbdobbahkaa", sum := "3be9090b51bcbd665760c64dbc810da09877668f6e5f633383dca284242db4c8", func := "garret/garretlaw15.LookupOne", spec := "lookupOne", inPlace := ["internal/abi.NoEscape", "internal/bytealg.MakeNoZero", "slices.overlaps[garret/api.Item]"], unfollowed := true, recurses := true, apart := false }
def LookupOneSaid : Prop := lookupOneRow.holds Try.pinned (OpenSpec.ofChange lookupOneSpec)

/-- ITS FALSE NEIGHBOUR: 'it returns false'. Refute it at one input. -/
def lookupOneWrong : ChangeSpec := { name := "lookupOne", fn := fun _ => fun
  | [d1, d2, d3] => { results := [.lit (.bool false)], args := [d1, d2, d3] }
  | _ => none }
def LookupOneWrongFalsely : Prop := lookupOneRow.holds Try.pinned (OpenSpec.ofChange lookupOneWrong)

/-- 'garretlaw15.LookupSame': WHATEVER THE INPUT: true; the input reads as it did. -/
def lookupSameSpec : ChangeSpec := { name := "lookupSame", fn := fun _ => fun
  | [d] => { results := [.lit (.bool true)], args := [d] }
  | _ => none }
def lookupSameRow : OpenClaim := { program := "ytgnljbdobbahkaa", sum := "3be9090b51bcbd665760c64dbc810da09877668f6e5f633383dca284242db4c8", func := "garret/garretlaw15.LookupSame", spec := "lookupSame", inPlace := ["internal/abi.NoEscape", "internal/bytealg.MakeNoZero", "slices.overlaps[garret/api.Item]"], unfollowed := true, recurses := true, apart := false }
def LookupSameSaid : Prop := lookupSameRow.holds Try.pinned (OpenSpec.ofChange lookupSameSpec)

/-- ITS FALSE NEIGHBOUR: 'it returns false'. Refute it at one input. -/
def lookupSameWrong : ChangeSpec := { name := "lookupSame", fn := fun _ => fun
  | [d] => { results := [.lit (.bool false)], args := [d] }
  | _ => none }
def LookupSameWrongFalsely : Prop := lookupSameRow.holds Try.pinned (OpenSpec.ofChange lookupSameWrong)

/-- 'garretlaw15.LookupPlays': WHATEVER THE INPUT: true; the input reads as it did. -/
def lookupPlaysSpec : ChangeSpec := { name := "lookupPlays", fn := fun _ => fun
  | [d1, d2] => { results := [.lit (.bool true)], args := [d1, d2] }
  | _ => none }
def lookupPlaysRow : OpenClaim := { program := "ytgnljbdobbahkaa", sum := "3be9090b51bcbd665760c64dbc810da09877668f6e5f633383dca284242db4c8", func := "garret/garretlaw15.LookupPlays", spec := "lookupPlays", inPlace := ["internal/abi.NoEscape", "internal/bytealg.MakeNoZero", "slices.overlaps[garret/api.Item]"], unfollowed := true, recurses := true, apart := false }
def LookupPlaysSaid : Prop := lookupPlaysRow.holds Try.pinned (OpenSpec.ofChange lookupPlaysSpec)

/-- ITS FALSE NEIGHBOUR: 'it returns false'. Refute it at one input. -/
def lookupPlaysWrong : ChangeSpec := { name := "lookupPlays", fn := fun _ => fun
  | [d1, d2] => { results := [.lit (.bool false)], args := [d1, d2] }
  | _ => none }
def LookupPlaysWrongFalsely : Prop := lookupPlaysRow.holds Try.pinned (OpenSpec.ofChange lookupPlaysWrong)

/- THE SECOND FORM. 'bulk': how many values and letters a reading holds, each counted each time it is reached (what is shared counts as often as it is met; a slice's spare places count too). A statement '..UptoSaid' is the law's where the arguments, and the package variables that the reading takes, are together of bulk at most 1048576: NARROWER than '..Said'. Prove '..Said' where nothing that the law and all that it calls make is longer than what came in: it says more and counts as full. Else prove '..UptoSaid'. A law counts once. -/
mutual
def uptoBulk {H : Type} : DataW H → Nat
  | .lit (.string bytes) => bytes.length + 1
  | .lit _ => 1
  | .nil => 1
  | .ptr d => uptoBulk d + 1
  | .slice elems spare => uptoBulkAll elems + uptoBulkAll spare + 1
  | .agg parts => uptoBulkAll parts + 1
  | .iface _ d => uptoBulk d + 1
  | .map entries => uptoBulkEntries entries + 1
  | .held _ => 1
def uptoBulkAll {H : Type} : List (DataW H) → Nat
  | [] => 0
  | d :: r => uptoBulk d + uptoBulkAll r
def uptoBulkEntries {H : Type} : List (Lit × DataW H) → Nat
  | [] => 0
  | x :: r => uptoBulkEntry x + uptoBulkEntries r
def uptoBulkEntry {H : Type} : Lit × DataW H → Nat
  | (.string bytes, d) => bytes.length + uptoBulk d + 1
  | (_, d) => uptoBulk d + 1
 end
def uptoSmall : (H : Type) → List (DataW H) → Bool := fun _ ds => decide (uptoBulkAll ds ≤ 1048576)
def OpenSpec.upto (s : _root_.Go.ChangeSpec) : _root_.Go.OpenSpec := { _root_.Go.OpenSpec.ofChange s with cond := some uptoSmall }

/-- 'garretlaw16.IndexWrites', WHERE WHAT IT READS IS OF BULK AT MOST 1048576: true; the input reads as it did. -/
def indexWritesUptoRow : OpenClaim := { program := "ytgnljbdobbahkaa", sum := "3be9090b51bcbd665760c64dbc810da09877668f6e5f633383dca284242db4c8", func := "garret/garretlaw16.IndexWrites", spec := "indexWrites", inPlace := ["internal/abi.NoEscape", "internal/bytealg.IndexByteString"], unfollowed := true, recurses := true, apart := false, narrowed := true }
def IndexWritesUptoSaid : Prop := indexWritesUptoRow.holds Try.pinned (OpenSpec.upto indexWritesSpec)

/-- 'garretlaw16.IndexBack', WHERE WHAT IT READS IS OF BULK AT MOST 1048576: true; the input reads as it did. -/
def indexBackUptoRow : OpenClaim := { program := "ytgnljbdobbahkaa", sum := "3be9090b51bcbd665760c64dbc810da09877668f6e5f633383dca284242db4c8", func := "garret/garretlaw16.IndexBack", spec := "indexBack", inPlace := ["internal/abi.NoEscape", "internal/bytealg.MakeNoZero", "slices.overlaps[garret/api.Item]"], unfollowed := true, recurses := true, apart := false, narrowed := true }
def IndexBackUptoSaid : Prop := indexBackUptoRow.holds Try.pinned (OpenSpec.upto indexBackSpec)

/-- 'garretlaw15.LookupOrders', WHERE WHAT IT READS IS OF BULK AT MOST 1048576: true; the input reads as it did. -/
def lookupOrdersUptoRow : OpenClaim := { program := "ytgnljbdobbahkaa", sum := "3be9090b51bcbd665760c64dbc810da09877668f6e5f633383dca284242db4c8", func := "garret/garretlaw15.LookupOrders", spec := "lookupOrders", inPlace := ["internal/abi.NoEscape", "internal/bytealg.MakeNoZero", "slices.overlaps[garret/api.Item]"], unfollowed := true, recurses := true, apart := false, narrowed := true }
def LookupOrdersUptoSaid : Prop := lookupOrdersUptoRow.holds Try.pinned (OpenSpec.upto lookupOrdersSpec)

/-- 'garretlaw15.LookupOne', WHERE WHAT IT READS IS OF BULK AT MOST 1048576: true; the input reads as it did. -/
def lookupOneUptoRow : OpenClaim := { program := "ytgnljbdobbahkaa", sum := "3be9090b51bcbd665760c64dbc810da09877668f6e5f633383dca284242db4c8", func := "garret/garretlaw15.LookupOne", spec := "lookupOne", inPlace := ["internal/abi.NoEscape", "internal/bytealg.MakeNoZero", "slices.overlaps[garret/api.Item]"], unfollowed := true, recurses := true, apart := false, narrowed := true }
def LookupOneUptoSaid : Prop := lookupOneUptoRow.holds Try.pinned (OpenSpec.upto lookupOneSpec)

/-- 'garretlaw15.LookupSame', WHERE WHAT IT READS IS OF BULK AT MOST 1048576: true; the input reads as it did. -/
def lookupSameUptoRow : OpenClaim := { program := "ytgnljbdobbahkaa", sum := "3be9090b51bcbd665760c64dbc810da09877668f6e5f633383dca284242db4c8", func := "garret/garretlaw15.LookupSame", spec := "lookupSame", inPlace := ["internal/abi.NoEscape", "internal/bytealg.MakeNoZero", "slices.overlaps[garret/api.Item]"], unfollowed := true, recurses := true, apart := false, narrowed := true }
def LookupSameUptoSaid : Prop := lookupSameUptoRow.holds Try.pinned (OpenSpec.upto lookupSameSpec)

/-- 'garretlaw15.LookupPlays', WHERE WHAT IT READS IS OF BULK AT MOST 1048576: true; the input reads as it did. -/
def lookupPlaysUptoRow : OpenClaim := { program := "ytgnljbdobbahkaa", sum := "3be9090b51bcbd665760c64dbc810da09877668f6e5f633383dca284242db4c8", func := "garret/garretlaw15.LookupPlays", spec := "lookupPlays", inPlace := ["internal/abi.NoEscape", "internal/bytealg.MakeNoZero", "slices.overlaps[garret/api.Item]"], unfollowed := true, recurses := true, apart := false, narrowed := true }
def LookupPlaysUptoSaid : Prop := lookupPlaysUptoRow.holds Try.pinned (OpenSpec.upto lookupPlaysSpec)

end Rows
end Go.Proofs.Ytgnljbdobbahkaa
