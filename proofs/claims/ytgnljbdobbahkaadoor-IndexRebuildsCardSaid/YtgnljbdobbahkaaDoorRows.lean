/-
  NARROWER THAN 'FOR EVERY INPUT', by the rows' own cells (each row's printed sentence says how): BlobWrites: laid · BlobReads: laid · BlobBack: laid · PackNames: laid · PackBack: laid · IndexRebuilds: laid.
  DERIVED. THE GIVEN ROWS OF THIS SEAT. 6 by the template 'for every input the law returns true; each argument reads behind the call as it read before'; 0 by the template 'total and deterministic' (their statements: YtgnljbdobbahkaaDoorTotals.lean).
  GIVEN WITH THE SEED: the statements are not yours to turn. If you find one false, say at which input.
  Laid BY PROGRAM, IN A SANDBOX (cutbox-rows.mjs): the forced cells as the released guide's own fill.sh prints them over the translation 509895e1aae1f959… (all of the seat's roots in one cut). By AI agents, Wed Nov 11 2026. No macro, syntax, notation, axiom, sorry.
-/
import Derived.Test.YtgnljbdobbahkaaDoorChecked
import GoSem.Claim
import GoSem.ClaimJoined
import GoSem.ClaimMapViews
import Derived.JoinedTies
import Derived.KernelRfl
namespace Go.Proofs.YtgnljbdobbahkaaDoor
/- THE CELL 'sum', in the pinned program and in every row, IS THE sha256 OF THE DUMP (.gsa) THAT YtgnljbdobbahkaaDoorProg.lean LOADS. Nothing in Lean hashes anything: it is a label: what it is worth is what the hold of that sum in a sandbox is worth. -/
noncomputable def Tryd.pinned : Pinned := { name := "ytgnljbdobbahkaadoor", sum := "509895e1aae1f9596db99318cec4c71bdfd855ff08fd5595c465c78a1d65b6ef", checked := Tryd.checked }
namespace Rows
def none {H : Type} : Left H := { results := [], args := [] }

/- WHAT THE LISTED PACKAGE-LEVEL VARIABLES READ AS WHEN THE CALL BEGINS. Each datum BY PROGRAM (the guide's laid-datum.mjs) off the statement by which the dump's own 'gosem.cut.vars' lays the variable. In a bare row this is a premise. The card (YtgnljbdobbahkaaDoorCards.lean) ties it to the program's text. -/
def laid_garret_sha_constants {H : Type} : DataW H := .agg [.lit (.int .u32 1116352408), .lit (.int .u32 1899447441), .lit (.int .u32 3049323471), .lit (.int .u32 3921009573), .lit (.int .u32 961987163), .lit (.int .u32 1508970993), .lit (.int .u32 2453635748), .lit (.int .u32 2870763221), .lit (.int .u32 3624381080), .lit (.int .u32 310598401), .lit (.int .u32 607225278), .lit (.int .u32 1426881987), .lit (.int .u32 1925078388), .lit (.int .u32 2162078206), .lit (.int .u32 2614888103), .lit (.int .u32 3248222580), .lit (.int .u32 3835390401), .lit (.int .u32 4022224774), .lit (.int .u32 264347078), .lit (.int .u32 604807628), .lit (.int .u32 770255983), .lit (.int .u32 1249150122), .lit (.int .u32 1555081692), .lit (.int .u32 1996064986), .lit (.int .u32 2554220882), .lit (.int .u32 2821834349), .lit (.int .u32 2952996808), .lit (.int .u32 3210313671), .lit (.int .u32 3336571891), .lit (.int .u32 3584528711), .lit (.int .u32 113926993), .lit (.int .u32 338241895), .lit (.int .u32 666307205), .lit (.int .u32 773529912), .lit (.int .u32 1294757372), .lit (.int .u32 1396182291), .lit (.int .u32 1695183700), .lit (.int .u32 1986661051), .lit (.int .u32 2177026350), .lit (.int .u32 2456956037), .lit (.int .u32 2730485921), .lit (.int .u32 2820302411), .lit (.int .u32 3259730800), .lit (.int .u32 3345764771), .lit (.int .u32 3516065817), .lit (.int .u32 3600352804), .lit (.int .u32 4094571909), .lit (.int .u32 275423344), .lit (.int .u32 430227734), .lit (.int .u32 506948616), .lit (.int .u32 659060556), .lit (.int .u32 883997877), .lit (.int .u32 958139571), .lit (.int .u32 1322822218), .lit (.int .u32 1537002063), .lit (.int .u32 1747873779), .lit (.int .u32 1955562222), .lit (.int .u32 2024104815), .lit (.int .u32 2227730452), .lit (.int .u32 2361852424), .lit (.int .u32 2428436474), .lit (.int .u32 2756734187), .lit (.int .u32 3204031479), .lit (.int .u32 3329325298)]

/-- 'garretlaw13.BlobWrites': WHATEVER THE INPUT: true; the input reads as it did. -/
def blobWritesSpec : ChangeSpec := { name := "blobWrites", fn := fun _ => fun
  | [d1, d2] => { results := [.lit (.bool true)], args := [d1, d2] }
  | _ => none }
def blobWritesRow : OpenClaim := { program := "ytgnljbdobbahkaadoor", sum := "509895e1aae1f9596db99318cec4c71bdfd855ff08fd5595c465c78a1d65b6ef", func := "garret/garretlaw13.BlobWrites", spec := "blobWrites", named := ["garret/sha.constants"], plainKeys := false, apart := false, laid := [("garret/sha.constants", laid_garret_sha_constants)] }
def BlobWritesSaid : Prop := blobWritesRow.holds Tryd.pinned (OpenSpec.ofChange blobWritesSpec)

/-- ITS FALSE NEIGHBOUR: 'it returns false'. Refute it at one input. -/
def blobWritesWrong : ChangeSpec := { name := "blobWrites", fn := fun _ => fun
  | [d1, d2] => { results := [.lit (.bool false)], args := [d1, d2] }
  | _ => none }
def BlobWritesWrongFalsely : Prop := blobWritesRow.holds Tryd.pinned (OpenSpec.ofChange blobWritesWrong)

/-- 'garretlaw13.BlobReads': WHATEVER THE INPUT: true; the input reads as it did. -/
def blobReadsSpec : ChangeSpec := { name := "blobReads", fn := fun _ => fun
  | [d1, d2] => { results := [.lit (.bool true)], args := [d1, d2] }
  | _ => none }
def blobReadsRow : OpenClaim := { program := "ytgnljbdobbahkaadoor", sum := "509895e1aae1f9596db99318cec4c71bdfd855ff08fd5595c465c78a1d65b6ef", func := "garret/garretlaw13.BlobReads", spec := "blobReads", unfollowed := true, recurses := true, named := ["garret/sha.constants"], plainKeys := false, apart := false, laid := [("garret/sha.constants", laid_garret_sha_constants)] }
def BlobReadsSaid : Prop := blobReadsRow.holds Tryd.pinned (OpenSpec.ofChange blobReadsSpec)

/-- ITS FALSE NEIGHBOUR: 'it returns false'. Refute it at one input. -/
def blobReadsWrong : ChangeSpec := { name := "blobReads", fn := fun _ => fun
  | [d1, d2] => { results := [.lit (.bool false)], args := [d1, d2] }
  | _ => none }
def BlobReadsWrongFalsely : Prop := blobReadsRow.holds Tryd.pinned (OpenSpec.ofChange blobReadsWrong)

/-- 'garretlaw13.BlobBack': WHATEVER THE INPUT: true; the input reads as it did. -/
def blobBackSpec : ChangeSpec := { name := "blobBack", fn := fun _ => fun
  | [d1, d2, d3] => { results := [.lit (.bool true)], args := [d1, d2, d3] }
  | _ => none }
def blobBackRow : OpenClaim := { program := "ytgnljbdobbahkaadoor", sum := "509895e1aae1f9596db99318cec4c71bdfd855ff08fd5595c465c78a1d65b6ef", func := "garret/garretlaw13.BlobBack", spec := "blobBack", unfollowed := true, recurses := true, named := ["garret/sha.constants"], plainKeys := false, apart := false, laid := [("garret/sha.constants", laid_garret_sha_constants)] }
def BlobBackSaid : Prop := blobBackRow.holds Tryd.pinned (OpenSpec.ofChange blobBackSpec)

/-- ITS FALSE NEIGHBOUR: 'it returns false'. Refute it at one input. -/
def blobBackWrong : ChangeSpec := { name := "blobBack", fn := fun _ => fun
  | [d1, d2, d3] => { results := [.lit (.bool false)], args := [d1, d2, d3] }
  | _ => none }
def BlobBackWrongFalsely : Prop := blobBackRow.holds Tryd.pinned (OpenSpec.ofChange blobBackWrong)

/-- 'garretlaw14.PackNames': WHATEVER THE INPUT: true; the input reads as it did. -/
def packNamesSpec : ChangeSpec := { name := "packNames", fn := fun _ => fun
  | [d1, d2, d3] => { results := [.lit (.bool true)], args := [d1, d2, d3] }
  | _ => none }
def packNamesRow : OpenClaim := { program := "ytgnljbdobbahkaadoor", sum := "509895e1aae1f9596db99318cec4c71bdfd855ff08fd5595c465c78a1d65b6ef", func := "garret/garretlaw14.PackNames", spec := "packNames", inPlace := ["internal/abi.NoEscape", "internal/bytealg.IndexByteString"], named := ["garret/sha.constants"], plainKeys := false, apart := false, laid := [("garret/sha.constants", laid_garret_sha_constants)] }
def PackNamesSaid : Prop := packNamesRow.holds Tryd.pinned (OpenSpec.ofChange packNamesSpec)

/-- ITS FALSE NEIGHBOUR: 'it returns false'. Refute it at one input. -/
def packNamesWrong : ChangeSpec := { name := "packNames", fn := fun _ => fun
  | [d1, d2, d3] => { results := [.lit (.bool false)], args := [d1, d2, d3] }
  | _ => none }
def PackNamesWrongFalsely : Prop := packNamesRow.holds Tryd.pinned (OpenSpec.ofChange packNamesWrong)

/-- 'garretlaw14.PackBack': WHATEVER THE INPUT: true; the input reads as it did. -/
def packBackSpec : ChangeSpec := { name := "packBack", fn := fun _ => fun
  | [d1, d2] => { results := [.lit (.bool true)], args := [d1, d2] }
  | _ => none }
def packBackRow : OpenClaim := { program := "ytgnljbdobbahkaadoor", sum := "509895e1aae1f9596db99318cec4c71bdfd855ff08fd5595c465c78a1d65b6ef", func := "garret/garretlaw14.PackBack", spec := "packBack", inPlace := ["internal/abi.NoEscape"], unfollowed := true, recurses := true, named := ["garret/sha.constants"], plainKeys := false, apart := false, laid := [("garret/sha.constants", laid_garret_sha_constants)] }
def PackBackSaid : Prop := packBackRow.holds Tryd.pinned (OpenSpec.ofChange packBackSpec)

/-- ITS FALSE NEIGHBOUR: 'it returns false'. Refute it at one input. -/
def packBackWrong : ChangeSpec := { name := "packBack", fn := fun _ => fun
  | [d1, d2] => { results := [.lit (.bool false)], args := [d1, d2] }
  | _ => none }
def PackBackWrongFalsely : Prop := packBackRow.holds Tryd.pinned (OpenSpec.ofChange packBackWrong)

/-- 'garretlaw16.IndexRebuilds': WHATEVER THE INPUT: true; the input reads as it did. -/
def indexRebuildsSpec : ChangeSpec := { name := "indexRebuilds", fn := fun _ => fun
  | [d1, d2] => { results := [.lit (.bool true)], args := [d1, d2] }
  | _ => none }
def indexRebuildsRow : OpenClaim := { program := "ytgnljbdobbahkaadoor", sum := "509895e1aae1f9596db99318cec4c71bdfd855ff08fd5595c465c78a1d65b6ef", func := "garret/garretlaw16.IndexRebuilds", spec := "indexRebuilds", inPlace := ["internal/abi.NoEscape", "slices.overlaps[garret/api.Item]"], unfollowed := true, recurses := true, named := ["garret/sha.constants"], plainKeys := false, apart := false, laid := [("garret/sha.constants", laid_garret_sha_constants)] }
def IndexRebuildsSaid : Prop := indexRebuildsRow.holds Tryd.pinned (OpenSpec.ofChange indexRebuildsSpec)

/-- ITS FALSE NEIGHBOUR: 'it returns false'. Refute it at one input. -/
def indexRebuildsWrong : ChangeSpec := { name := "indexRebuilds", fn := fun _ => fun
  | [d1, d2] => { results := [.lit (.bool false)], args := [d1, d2] }
  | _ => none }
def IndexRebuildsWrongFalsely : Prop := indexRebuildsRow.holds Tryd.pinned (OpenSpec.ofChange indexRebuildsWrong)

/- THE SECOND FORM. 'bulk': how many values and letters a reading holds, each counted each time it is reached (what is shared counts as often as it is met; a slice's spare places count too). A statement '..UptoSaid' is the law's where the arguments, and the package variables that the reading takes, are together of bulk at most 1048576: NARROWER than '..Said'. Prove '..Said' where nothing that the law and all that it calls make is longer than what came in: it says more and counts as full. Else prove '..UptoSaid'. A law counts once. -/
mutual
def uptoBulk {H : Type} : DataW H → Nat
  | .lit (.string bytes) => bytes.length + 1
  | .lit _ => 1
  | .nil => 1
  | .ptr d => uptoBulk d + 1
  | .slice elems spare => uptoBulkAll elems + uptoBulkAll spare + 1
  | .agg parts => uptoBulkAll parts + 1
  | .iface _ d => uptoBulk d + 1
  | .map entries => uptoBulkEntries entries + 1
  | .held _ => 1
def uptoBulkAll {H : Type} : List (DataW H) → Nat
  | [] => 0
  | d :: r => uptoBulk d + uptoBulkAll r
def uptoBulkEntries {H : Type} : List (Lit × DataW H) → Nat
  | [] => 0
  | x :: r => uptoBulkEntry x + uptoBulkEntries r
def uptoBulkEntry {H : Type} : Lit × DataW H → Nat
  | (.string bytes, d) => bytes.length + uptoBulk d + 1
  | (_, d) => uptoBulk d + 1
 end
def uptoSmall : (H : Type) → List (DataW H) → Bool := fun _ ds => decide (uptoBulkAll ds ≤ 1048576)
def OpenSpec.upto (s : _root_.Go.ChangeSpec) : _root_.Go.OpenSpec := { _root_.Go.OpenSpec.ofChange s with cond := some uptoSmall }

/-- 'garretlaw13.BlobWrites', WHERE WHAT IT READS IS OF BULK AT MOST 1048576: true; the input reads as it did. -/
def blobWritesUptoRow : OpenClaim := { program := "ytgnljbdobbahkaadoor", sum := "509895e1aae1f9596db99318cec4c71bdfd855ff08fd5595c465c78a1d65b6ef", func := "garret/garretlaw13.BlobWrites", spec := "blobWrites", named := ["garret/sha.constants"], plainKeys := false, apart := false, laid := [("garret/sha.constants", laid_garret_sha_constants)], narrowed := true }
def BlobWritesUptoSaid : Prop := blobWritesUptoRow.holds Tryd.pinned (OpenSpec.upto blobWritesSpec)

/-- 'garretlaw13.BlobReads', WHERE WHAT IT READS IS OF BULK AT MOST 1048576: true; the input reads as it did. -/
def blobReadsUptoRow : OpenClaim := { program := "ytgnljbdobbahkaadoor", sum := "509895e1aae1f9596db99318cec4c71bdfd855ff08fd5595c465c78a1d65b6ef", func := "garret/garretlaw13.BlobReads", spec := "blobReads", unfollowed := true, recurses := true, named := ["garret/sha.constants"], plainKeys := false, apart := false, laid := [("garret/sha.constants", laid_garret_sha_constants)], narrowed := true }
def BlobReadsUptoSaid : Prop := blobReadsUptoRow.holds Tryd.pinned (OpenSpec.upto blobReadsSpec)

/-- 'garretlaw13.BlobBack', WHERE WHAT IT READS IS OF BULK AT MOST 1048576: true; the input reads as it did. -/
def blobBackUptoRow : OpenClaim := { program := "ytgnljbdobbahkaadoor", sum := "509895e1aae1f9596db99318cec4c71bdfd855ff08fd5595c465c78a1d65b6ef", func := "garret/garretlaw13.BlobBack", spec := "blobBack", unfollowed := true, recurses := true, named := ["garret/sha.constants"], plainKeys := false, apart := false, laid := [("garret/sha.constants", laid_garret_sha_constants)], narrowed := true }
def BlobBackUptoSaid : Prop := blobBackUptoRow.holds Tryd.pinned (OpenSpec.upto blobBackSpec)

/-- 'garretlaw14.PackNames', WHERE WHAT IT READS IS OF BULK AT MOST 1048576: true; the input reads as it did. -/
def packNamesUptoRow : OpenClaim := { program := "ytgnljbdobbahkaadoor", sum := "509895e1aae1f9596db99318cec4c71bdfd855ff08fd5595c465c78a1d65b6ef", func := "garret/garretlaw14.PackNames", spec := "packNames", inPlace := ["internal/abi.NoEscape", "internal/bytealg.IndexByteString"], named := ["garret/sha.constants"], plainKeys := false, apart := false, laid := [("garret/sha.constants", laid_garret_sha_constants)], narrowed := true }
def PackNamesUptoSaid : Prop := packNamesUptoRow.holds Tryd.pinned (OpenSpec.upto packNamesSpec)

/-- 'garretlaw14.PackBack', WHERE WHAT IT READS IS OF BULK AT MOST 1048576: true; the input reads as it did. -/
def packBackUptoRow : OpenClaim := { program := "ytgnljbdobbahkaadoor", sum := "509895e1aae1f9596db99318cec4c71bdfd855ff08fd5595c465c78a1d65b6ef", func := "garret/garretlaw14.PackBack", spec := "packBack", inPlace := ["internal/abi.NoEscape"], unfollowed := true, recurses := true, named := ["garret/sha.constants"], plainKeys := false, apart := false, laid := [("garret/sha.constants", laid_garret_sha_constants)], narrowed := true }
def PackBackUptoSaid : Prop := packBackUptoRow.holds Tryd.pinned (OpenSpec.upto packBackSpec)

/-- 'garretlaw16.IndexRebuilds', WHERE WHAT IT READS IS OF BULK AT MOST 1048576: true; the input reads as it did. -/
def indexRebuildsUptoRow : OpenClaim := { program := "ytgnljbdobbahkaadoor", sum := "509895e1aae1f9596db99318cec4c71bdfd855ff08fd5595c465c78a1d65b6ef", func := "garret/garretlaw16.IndexRebuilds", spec := "indexRebuilds", inPlace := ["internal/abi.NoEscape", "slices.overlaps[garret/api.Item]"], unfollowed := true, recurses := true, named := ["garret/sha.constants"], plainKeys := false, apart := false, laid := [("garret/sha.constants", laid_garret_sha_constants)], narrowed := true }
def IndexRebuildsUptoSaid : Prop := indexRebuildsUptoRow.holds Tryd.pinned (OpenSpec.upto indexRebuildsSpec)

end Rows
end Go.Proofs.YtgnljbdobbahkaaDoor
