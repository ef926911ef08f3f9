/-
  No cell of these rows narrows 'for every input' (looked for: loops, veiled, ifaces, maps, wideKeys, modest, calm, conditions, laid).
  DERIVED. THE GIVEN ROWS OF THIS SEAT. 6 by the template 'for every input the law returns true; each argument reads behind the call as it read before'; 0 by the template 'total and deterministic' (their statements: YtcacldakplomnaaTotals.lean).
  GIVEN WITH THE SEED: the statements are not yours to turn. If you find one false, say at which input.
  Laid BY PROGRAM, IN A SANDBOX (cutbox-rows.mjs): the forced cells as the released guide's own fill.sh prints them over the translation 9d53d66ae2346984… (all of the seat's roots in one cut). By AI agents, Wed Nov 11 2026. No macro, syntax, notation, axiom, sorry.
-/
import Derived.Test.YtcacldakplomnaaChecked
import GoSem.Claim
import GoSem.ClaimJoined
import GoSem.ClaimMapViews
import Derived.JoinedTies
import Derived.KernelRfl
namespace Go.Proofs.Ytcacldakplomnaa
/- THE CELL 'sum', in the pinned program and in every row, IS THE sha256 OF THE DUMP (.gsa) THAT YtcacldakplomnaaProg.lean LOADS. Nothing in Lean hashes anything: it is a label: what it is worth is what the hold of that sum in a sandbox is worth. -/
noncomputable def Try.pinned : Pinned := { name := "ytcacldakplomnaa", sum := "9d53d66ae234698424eb2b0dead563930ce0b8dac7f9226119698448448e3f90", checked := Try.checked }
namespace Rows
def none {H : Type} : Left H := { results := [], args := [] }

/-- 'garretlaw06.ShardWrites': WHATEVER THE INPUT: true; the input reads as it did. -/
def shardWritesSpec : ChangeSpec := { name := "shardWrites", fn := fun _ => fun
  | [d1, d2] => { results := [.lit (.bool true)], args := [d1, d2] }
  | _ => none }
def shardWritesRow : OpenClaim := { program := "ytcacldakplomnaa", sum := "9d53d66ae234698424eb2b0dead563930ce0b8dac7f9226119698448448e3f90", func := "garret/garretlaw06.ShardWrites", spec := "shardWrites", unfollowed := true, recurses := true, apart := false }
def ShardWritesSaid : Prop := shardWritesRow.holds Try.pinned (OpenSpec.ofChange shardWritesSpec)

/-- ITS FALSE NEIGHBOUR: 'it returns false'. Refute it at one input. -/
def shardWritesWrong : ChangeSpec := { name := "shardWrites", fn := fun _ => fun
  | [d1, d2] => { results := [.lit (.bool false)], args := [d1, d2] }
  | _ => none }
def ShardWritesWrongFalsely : Prop := shardWritesRow.holds Try.pinned (OpenSpec.ofChange shardWritesWrong)

/-- 'garretlaw06.ShardBack': WHATEVER THE INPUT: true; the input reads as it did. -/
def shardBackSpec : ChangeSpec := { name := "shardBack", fn := fun _ => fun
  | [d1, d2] => { results := [.lit (.bool true)], args := [d1, d2] }
  | _ => none }
def shardBackRow : OpenClaim := { program := "ytcacldakplomnaa", sum := "9d53d66ae234698424eb2b0dead563930ce0b8dac7f9226119698448448e3f90", func := "garret/garretlaw06.ShardBack", spec := "shardBack", unfollowed := true, recurses := true, apart := false }
def ShardBackSaid : Prop := shardBackRow.holds Try.pinned (OpenSpec.ofChange shardBackSpec)

/-- ITS FALSE NEIGHBOUR: 'it returns false'. Refute it at one input. -/
def shardBackWrong : ChangeSpec := { name := "shardBack", fn := fun _ => fun
  | [d1, d2] => { results := [.lit (.bool false)], args := [d1, d2] }
  | _ => none }
def ShardBackWrongFalsely : Prop := shardBackRow.holds Try.pinned (OpenSpec.ofChange shardBackWrong)

/-- 'garretlaw05.StripeSums': WHATEVER THE INPUT: true; the input reads as it did. -/
def stripeSumsSpec : ChangeSpec := { name := "stripeSums", fn := fun _ => fun
  | [d1, d2, d3] => { results := [.lit (.bool true)], args := [d1, d2, d3] }
  | _ => none }
def stripeSumsRow : OpenClaim := { program := "ytcacldakplomnaa", sum := "9d53d66ae234698424eb2b0dead563930ce0b8dac7f9226119698448448e3f90", func := "garret/garretlaw05.StripeSums", spec := "stripeSums", inPlace := ["sync/atomic.LoadUint32", "(*internal/sync.Mutex).Lock", "internal/race.Disable", "sync/atomic.CompareAndSwapInt32", "internal/race.Enable", "internal/race.Acquire", "(*internal/sync.Mutex).lockSlow", "internal/sync.runtime_canSpin", "internal/sync.runtime_doSpin", "internal/sync.throw", "internal/sync.runtime_nanotime", "internal/sync.runtime_SemacquireMutex", "sync/atomic.AddInt32", "(*internal/sync.Mutex).Unlock", "internal/race.ReleaseMerge", "(*internal/sync.Mutex).unlockSlow", "internal/sync.fatal", "internal/sync.runtime_Semrelease", "sync/atomic.StoreUint32", "internal/abi.NoEscape", "internal/bytealg.MakeNoZero"], unfollowed := true, recurses := true, apart := false }
def StripeSumsSaid : Prop := stripeSumsRow.holds Try.pinned (OpenSpec.ofChange stripeSumsSpec)

/-- ITS FALSE NEIGHBOUR: 'it returns false'. Refute it at one input. -/
def stripeSumsWrong : ChangeSpec := { name := "stripeSums", fn := fun _ => fun
  | [d1, d2, d3] => { results := [.lit (.bool false)], args := [d1, d2, d3] }
  | _ => none }
def StripeSumsWrongFalsely : Prop := stripeSumsRow.holds Try.pinned (OpenSpec.ofChange stripeSumsWrong)

/-- 'garretlaw05.StripeMakes': WHATEVER THE INPUT: true; the input reads as it did. -/
def stripeMakesSpec : ChangeSpec := { name := "stripeMakes", fn := fun _ => fun
  | [d1, d2, d3] => { results := [.lit (.bool true)], args := [d1, d2, d3] }
  | _ => none }
def stripeMakesRow : OpenClaim := { program := "ytcacldakplomnaa", sum := "9d53d66ae234698424eb2b0dead563930ce0b8dac7f9226119698448448e3f90", func := "garret/garretlaw05.StripeMakes", spec := "stripeMakes", inPlace := ["sync/atomic.LoadUint32", "(*internal/sync.Mutex).Lock", "internal/race.Disable", "sync/atomic.CompareAndSwapInt32", "internal/race.Enable", "internal/race.Acquire", "(*internal/sync.Mutex).lockSlow", "internal/sync.runtime_canSpin", "internal/sync.runtime_doSpin", "internal/sync.throw", "internal/sync.runtime_nanotime", "internal/sync.runtime_SemacquireMutex", "sync/atomic.AddInt32", "(*internal/sync.Mutex).Unlock", "internal/race.ReleaseMerge", "(*internal/sync.Mutex).unlockSlow", "internal/sync.fatal", "internal/sync.runtime_Semrelease", "sync/atomic.StoreUint32", "internal/abi.NoEscape", "internal/bytealg.MakeNoZero"], unfollowed := true, recurses := true, apart := false }
def StripeMakesSaid : Prop := stripeMakesRow.holds Try.pinned (OpenSpec.ofChange stripeMakesSpec)

/-- ITS FALSE NEIGHBOUR: 'it returns false'. Refute it at one input. -/
def stripeMakesWrong : ChangeSpec := { name := "stripeMakes", fn := fun _ => fun
  | [d1, d2, d3] => { results := [.lit (.bool false)], args := [d1, d2, d3] }
  | _ => none }
def StripeMakesWrongFalsely : Prop := stripeMakesRow.holds Try.pinned (OpenSpec.ofChange stripeMakesWrong)

/-- 'garretlaw05.StripeAny': WHATEVER THE INPUT: true; the input reads as it did. -/
def stripeAnySpec : ChangeSpec := { name := "stripeAny", fn := fun _ => fun
  | [d1, d2, d3] => { results := [.lit (.bool true)], args := [d1, d2, d3] }
  | _ => none }
def stripeAnyRow : OpenClaim := { program := "ytcacldakplomnaa", sum := "9d53d66ae234698424eb2b0dead563930ce0b8dac7f9226119698448448e3f90", func := "garret/garretlaw05.StripeAny", spec := "stripeAny", inPlace := ["sync/atomic.LoadUint32", "(*internal/sync.Mutex).Lock", "internal/race.Disable", "sync/atomic.CompareAndSwapInt32", "internal/race.Enable", "internal/race.Acquire", "(*internal/sync.Mutex).lockSlow", "internal/sync.runtime_canSpin", "internal/sync.runtime_doSpin", "internal/sync.throw", "internal/sync.runtime_nanotime", "internal/sync.runtime_SemacquireMutex", "sync/atomic.AddInt32", "(*internal/sync.Mutex).Unlock", "internal/race.ReleaseMerge", "(*internal/sync.Mutex).unlockSlow", "internal/sync.fatal", "internal/sync.runtime_Semrelease", "sync/atomic.StoreUint32", "internal/abi.NoEscape", "internal/bytealg.MakeNoZero"], unfollowed := true, recurses := true, apart := false }
def StripeAnySaid : Prop := stripeAnyRow.holds Try.pinned (OpenSpec.ofChange stripeAnySpec)

/-- ITS FALSE NEIGHBOUR: 'it returns false'. Refute it at one input. -/
def stripeAnyWrong : ChangeSpec := { name := "stripeAny", fn := fun _ => fun
  | [d1, d2, d3] => { results := [.lit (.bool false)], args := [d1, d2, d3] }
  | _ => none }
def StripeAnyWrongFalsely : Prop := stripeAnyRow.holds Try.pinned (OpenSpec.ofChange stripeAnyWrong)

/-- 'garretlaw05.StripeTurned': WHATEVER THE INPUT: true; the input reads as it did. -/
def stripeTurnedSpec : ChangeSpec := { name := "stripeTurned", fn := fun _ => fun
  | [d1, d2, d3] => { results := [.lit (.bool true)], args := [d1, d2, d3] }
  | _ => none }
def stripeTurnedRow : OpenClaim := { program := "ytcacldakplomnaa", sum := "9d53d66ae234698424eb2b0dead563930ce0b8dac7f9226119698448448e3f90", func := "garret/garretlaw05.StripeTurned", spec := "stripeTurned", inPlace := ["sync/atomic.LoadUint32", "(*internal/sync.Mutex).Lock", "internal/race.Disable", "sync/atomic.CompareAndSwapInt32", "internal/race.Enable", "internal/race.Acquire", "(*internal/sync.Mutex).lockSlow", "internal/sync.runtime_canSpin", "internal/sync.runtime_doSpin", "internal/sync.throw", "internal/sync.runtime_nanotime", "internal/sync.runtime_SemacquireMutex", "sync/atomic.AddInt32", "(*internal/sync.Mutex).Unlock", "internal/race.ReleaseMerge", "(*internal/sync.Mutex).unlockSlow", "internal/sync.fatal", "internal/sync.runtime_Semrelease", "sync/atomic.StoreUint32", "internal/abi.NoEscape", "internal/bytealg.MakeNoZero"], unfollowed := true, recurses := true, apart := false }
def StripeTurnedSaid : Prop := stripeTurnedRow.holds Try.pinned (OpenSpec.ofChange stripeTurnedSpec)

/-- ITS FALSE NEIGHBOUR: 'it returns false'. Refute it at one input. -/
def stripeTurnedWrong : ChangeSpec := { name := "stripeTurned", fn := fun _ => fun
  | [d1, d2, d3] => { results := [.lit (.bool false)], args := [d1, d2, d3] }
  | _ => none }
def StripeTurnedWrongFalsely : Prop := stripeTurnedRow.holds Try.pinned (OpenSpec.ofChange stripeTurnedWrong)

/- THE SECOND FORM. 'bulk': how many values and letters a reading holds, each counted each time it is reached (what is shared counts as often as it is met; a slice's spare places count too). A statement '..UptoSaid' is the law's where the arguments, and the package variables that the reading takes, are together of bulk at most 1048576: NARROWER than '..Said'. Prove '..Said' where nothing that the law and all that it calls make is longer than what came in: it says more and counts as full. Else prove '..UptoSaid'. A law counts once. -/
mutual
def uptoBulk {H : Type} : DataW H → Nat
  | .lit (.string bytes) => bytes.length + 1
  | .lit _ => 1
  | .nil => 1
  | .ptr d => uptoBulk d + 1
  | .slice elems spare => uptoBulkAll elems + uptoBulkAll spare + 1
  | .agg parts => uptoBulkAll parts + 1
  | .iface _ d => uptoBulk d + 1
  | .map entries => uptoBulkEntries entries + 1
  | .held _ => 1
def uptoBulkAll {H : Type} : List (DataW H) → Nat
  | [] => 0
  | d :: r => uptoBulk d + uptoBulkAll r
def uptoBulkEntries {H : Type} : List (Lit × DataW H) → Nat
  | [] => 0
  | x :: r => uptoBulkEntry x + uptoBulkEntries r
def uptoBulkEntry {H : Type} : Lit × DataW H → Nat
  | (.string bytes, d) => bytes.length + uptoBulk d + 1
  | (_, d) => uptoBulk d + 1
 end
def uptoSmall : (H : Type) → List (DataW H) → Bool := fun _ ds => decide (uptoBulkAll ds ≤ 1048576)
def OpenSpec.upto (s : _root_.Go.ChangeSpec) : _root_.Go.OpenSpec := { _root_.Go.OpenSpec.ofChange s with cond := some uptoSmall }

/-- 'garretlaw06.ShardWrites', WHERE WHAT IT READS IS OF BULK AT MOST 1048576: true; the input reads as it did. -/
def shardWritesUptoRow : OpenClaim := { program := "ytcacldakplomnaa", sum := "9d53d66ae234698424eb2b0dead563930ce0b8dac7f9226119698448448e3f90", func := "garret/garretlaw06.ShardWrites", spec := "shardWrites", unfollowed := true, recurses := true, apart := false, narrowed := true }
def ShardWritesUptoSaid : Prop := shardWritesUptoRow.holds Try.pinned (OpenSpec.upto shardWritesSpec)

/-- 'garretlaw06.ShardBack', WHERE WHAT IT READS IS OF BULK AT MOST 1048576: true; the input reads as it did. -/
def shardBackUptoRow : OpenClaim := { program := "ytcacldakplomnaa", sum := "9d53d66ae234698424eb2b0dead563930ce0b8dac7f9226119698448448e3f90", func := "garret/garretlaw06.ShardBack", spec := "shardBack", unfollowed := true, recurses := true, apart := false, narrowed := true }
def ShardBackUptoSaid : Prop := shardBackUptoRow.holds Try.pinned (OpenSpec.upto shardBackSpec)

/-- 'garretlaw05.StripeSums', WHERE WHAT IT READS IS OF BULK AT MOST 1048576: true; the input reads as it did. -/
def stripeSumsUptoRow : OpenClaim := { program := "ytcacldakplomnaa", sum := "9d53d66ae234698424eb2b0dead563930ce0b8dac7f9226119698448448e3f90", func := "garret/garretlaw05.StripeSums", spec := "stripeSums", inPlace := ["sync/atomic.LoadUint32", "(*internal/sync.Mutex).Lock", "internal/race.Disable", "sync/atomic.CompareAndSwapInt32", "internal/race.Enable", "internal/race.Acquire", "(*internal/sync.Mutex).lockSlow", "internal/sync.runtime_canSpin", "internal/sync.runtime_doSpin", "internal/sync.throw", "internal/sync.runtime_nanotime", "internal/sync.runtime_SemacquireMutex", "sync/atomic.AddInt32", "(*internal/sync.Mutex).Unlock", "internal/race.ReleaseMerge", "(*internal/sync.Mutex).unlockSlow", "internal/sync.fatal", "internal/sync.runtime_Semrelease", "sync/atomic.StoreUint32", "internal/abi.NoEscape", "internal/bytealg.MakeNoZero"], unfollowed := true, recurses := true, apart := false, narrowed := true }
def StripeSumsUptoSaid : Prop := stripeSumsUptoRow.holds Try.pinned (OpenSpec.upto stripeSumsSpec)

/-- 'garretlaw05.StripeMakes', WHERE WHAT IT READS IS OF BULK AT MOST 1048576: true; the input reads as it did. -/
def stripeMakesUptoRow : OpenClaim := { program := "ytcacldakplomnaa", sum := "9d53d66ae234698424eb2b0dead563930ce0b8dac7f9226119698448448e3f90", func := "garret/garretlaw05.StripeMakes", spec := "stripeMakes", inPlace := ["sync/atomic.LoadUint32", "(*internal/sync.Mutex).Lock", "internal/race.Disable", "sync/atomic.CompareAndSwapInt32", "internal/race.Enable", "internal/race.Acquire", "(*internal/sync.Mutex).lockSlow", "internal/sync.runtime_canSpin", "internal/sync.runtime_doSpin", "internal/sync.throw", "internal/sync.runtime_nanotime", "internal/sync.runtime_SemacquireMutex", "sync/atomic.AddInt32", "(*internal/sync.Mutex).Unlock", "internal/race.ReleaseMerge", "(*internal/sync.Mutex).unlockSlow", "internal/sync.fatal", "internal/sync.runtime_Semrelease", "sync/atomic.StoreUint32", "internal/abi.NoEscape", "internal/bytealg.MakeNoZero"], unfollowed := true, recurses := true, apart := false, narrowed := true }
def StripeMakesUptoSaid : Prop := stripeMakesUptoRow.holds Try.pinned (OpenSpec.upto stripeMakesSpec)

/-- 'garretlaw05.StripeAny', WHERE WHAT IT READS IS OF BULK AT MOST 1048576: true; the input reads as it did. -/
def stripeAnyUptoRow : OpenClaim := { program := "ytcacldakplomnaa", sum := "9d53d66ae234698424eb2b0dead563930ce0b8dac7f9226119698448448e3f90", func := "garret/garretlaw05.StripeAny", spec := "stripeAny", inPlace := ["sync/atomic.LoadUint32", "(*internal/sync.Mutex).Lock", "internal/race.Disable", "sync/atomic.CompareAndSwapInt32", "internal/race.Enable", "internal/race.Acquire", "(*internal/sync.Mutex).lockSlow", "internal/sync.runtime_canSpin", "internal/sync.runtime_doSpin", "internal/sync.throw", "internal/sync.runtime_nanotime", "internal/sync.runtime_SemacquireMutex", "sync/atomic.AddInt32", "(*internal/sync.Mutex).Unlock", "internal/race.ReleaseMerge", "(*internal/sync.Mutex).unlockSlow", "internal/sync.fatal", "internal/sync.runtime_Semrelease", "sync/atomic.StoreUint32", "internal/abi.NoEscape", "internal/bytealg.MakeNoZero"], unfollowed := true, recurses := true, apart := false, narrowed := true }
def StripeAnyUptoSaid : Prop := stripeAnyUptoRow.holds Try.pinned (OpenSpec.upto stripeAnySpec)

/-- 'garretlaw05.StripeTurned', WHERE WHAT IT READS IS OF BULK AT MOST 1048576: true; the input reads as it did. -/
def stripeTurnedUptoRow : OpenClaim := { program := "ytcacldakplomnaa", sum := "9d53d66ae234698424eb2b0dead563930ce0b8dac7f9226119698448448e3f90", func := "garret/garretlaw05.StripeTurned", spec := "stripeTurned", inPlace := ["sync/atomic.LoadUint32", "(*internal/sync.Mutex).Lock", "internal/race.Disable", "sync/atomic.CompareAndSwapInt32", "internal/race.Enable", "internal/race.Acquire", "(*internal/sync.Mutex).lockSlow", "internal/sync.runtime_canSpin", "internal/sync.runtime_doSpin", "internal/sync.throw", "internal/sync.runtime_nanotime", "internal/sync.runtime_SemacquireMutex", "sync/atomic.AddInt32", "(*internal/sync.Mutex).Unlock", "internal/race.ReleaseMerge", "(*internal/sync.Mutex).unlockSlow", "internal/sync.fatal", "internal/sync.runtime_Semrelease", "sync/atomic.StoreUint32", "internal/abi.NoEscape", "internal/bytealg.MakeNoZero"], unfollowed := true, recurses := true, apart := false, narrowed := true }
def StripeTurnedUptoSaid : Prop := stripeTurnedUptoRow.holds Try.pinned (OpenSpec.upto stripeTurnedSpec)

end Rows
end Go.Proofs.Ytcacldakplomnaa
