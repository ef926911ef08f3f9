import Derived.Test.YtgnljbdobbahkaaRows
import Derived.WalkKit
import Derived.ProofKit
import Derived.OpenShut
import Derived.ShutString
import Derived.ChangeOld
import Derived.ChangeMaps5
import Derived.Below
import Derived.WideKeyPair
import Derived.SizedLaws
import Derived.Test.YtgnljbdobbahkaaSp2
namespace Go.Proofs.Ytgnljbdobbahkaa.lookupPlays
open Go.ChangeShapes Go.WideShapes Go.ChangeAt Go.RowKit
theorem own : ownKnob Try.prog.godebug = none := by kernel_rfl
theorem laidOut : laidOutB Try.prog = true := by kernel_rfl
theorem walk {μ : Gx.BMap} {h : Gx.AHeap} {w : World} (S : Gx.Start w μ h) {c0 : Gx.Slc} {l0 : List (Gx.DT.V Gc.ActD)} (R0 : Gx.Rep h (.list Gc.ActD) l0 [.slice c0.a c0.len c0.cap]) (x1 : Gc.It) {v0 : Value} (V0 : Gx.VR μ (.slice c0.a c0.len c0.cap) v0) {v1 : Value} (V1 : Gx.VR μ (.agg ⟨[.string x1.1, .string x1.2.1, .int .i64 x1.2.2.1, .int .i64 x1.2.2.2.1, .int .i64 x1.2.2.2.2.1, .int .i64 x1.2.2.2.2.2]⟩) v1) :
  Calls Try.prog 8 #[v0, v1] w fun e w' => e = .returned (.bool true) ∧ Below w.heap.size w w' := by
 obtain ⟨k, hk⟩ : ∃ k, 10000 ≤ k := ⟨10000, Nat.le_refl _⟩
 obtain ⟨h', hp⟩ := Gc.plays_true hk  R0 (x1.1, x1.2.1, x1.2.2.1, x1.2.2.2.1, x1.2.2.2.2.1, x1.2.2.2.2.2)
 have hrun : (Gc.e_law15_LookupPlays k (Gc.DD k)).run Bool [.slice c0.a c0.len c0.cap, .agg ⟨[.string x1.1, .string x1.2.1, .int .i64 x1.2.2.1, .int .i64 x1.2.2.2.1, .int .i64 x1.2.2.2.2.1, .int .i64 x1.2.2.2.2.2]⟩] h (fun v _ => match v with | .bool b => some b | _ => none) = some true := by
  have e : (Gc.e_law15_LookupPlays k (Gc.DD k)).run Bool [.slice c0.a c0.len c0.cap, .agg ⟨[.string x1.1, .string x1.2.1, .int .i64 x1.2.2.1, .int .i64 x1.2.2.2.1, .int .i64 x1.2.2.2.2.1, .int .i64 x1.2.2.2.2.2]⟩] h (fun v _ => match v with | .bool b => some b | _ => none)
   = (Gc.law15_LookupPlays k (Gc.DD k) c0 (x1.1, x1.2.1, x1.2.2.1, x1.2.2.2.1, x1.2.2.2.2.1, x1.2.2.2.2.2) h).bind fun r => some r.1 := by kernel_rfl
  rw [e]
  exact Gx.bnd hp rfl
 refine Gx.law_calls (Gc.ok_law15_LookupPlays (Gc.DD_sound k) k) rfl Try.func8 rfl rfl hrun S.sim S.z (.cons V0 (.cons V1 (.nil _))) S.ro
set_option maxRecDepth 100000 in
theorem lifted (os : Os) (started : os.Started) (H : Type) (enc : TypeId × Value → H) :
  ReturnsInHanded {} Try.checked os 8 .any (Rows.lookupPlaysSpec.pre6 enc Try.prog Try.f8 Rows.lookupPlaysRow.domain false) (Rows.lookupPlaysSpec.post enc Try.prog Try.f8 false true false false) := by
 refine returnsInHanded_of_change (C := Try.checked) own started (by kernel_rfl) Try.func8
  (ChangeSpec.witness6 (enc := enc) (C := Try.checked) false ⟨#[], #[.slice none 0 0, .agg #[.string ⟨#[]⟩, .string ⟨#[]⟩, .int .i64 0, .int .i64 0, .int .i64 0, .int .i64 0]], []⟩ 8 (by kernel_rfl) (by kernel_rfl) (by kernel_rfl) (by kernel_rfl)) ?_
 intro W base args ds gs before hval0 hW hcnd _
 have hval : ∀ (j : Nat) t v, Try.f8.params[j]? = some t → args[j]? = some v → Value.okWide Try.prog W .any base t v := hval0
 have hW' := hW
 obtain ⟨p, q, hA0, hV, rfl, hfz, hnd⟩ := hW
 have hA : DataW.TrodAll enc Try.prog W 0 (fun _ => true) true Try.f8.params.toList args.toList ds p := hA0
 have hA1 := hA
 rw [Try.params8] at hA hval hA1
 obtain ⟨v0, vs0, d0, ds0, p0, q0, hargs, rfl, rfl, h0, r0⟩ := trodAll_cons hA
 obtain ⟨v1, vs1, d1, ds1, p1, q1, rfl, rfl, rfl, h1, r1⟩ := trodAll_cons r0
 obtain ⟨rfl, rfl, rfl⟩ := trodAll_nil r1
 obtain rfl : args = #[v0, v1] := by cases args; simp_all
 obtain ⟨rfl, rfl⟩ := trodVars_none hV
 obtain ⟨μ0, g0, c0, l0, m0, V0, R0⟩ := (Gx.Start.zero W).dataL (T := Gc.ActD) (d := 8) (by kernel_rfl) Try.underlying74 (hval 0 74 v0 rfl rfl) h0
 obtain ⟨x1, _, _, V1⟩ := Gc.open_item (t := 57) (d := 8) (by kernel_rfl) (by kernel_rfl) (hval 1 57 v1 rfl rfl) h1
 clear hA0 hval0
 refine (walk m0.st R0 x1 V0 (V1 _)).mono fun e W' ⟨he, bel⟩ => ?_
 subst he
 exact ⟨_, rfl, _, _, _, [], _, [], hW', trodAll_mk1 (shut_bool Try.underlying4 _), Gx.trodAll_after laidOut bel (fun t ht => by
  have : t = 74 ∨ t = 57 := by simpa using ht
  rcases this with rfl | rfl <;> exact ⟨by kernel_rfl, of_decide_eq_true (by kernel_rfl)⟩) hA1, rfl, bel.frame _, fun h => by cases h⟩
theorem over : Rows.lookupPlaysRow.holds Try.pinned (OpenSpec.ofChange Rows.lookupPlaysSpec) :=
 OpenClaim.holds_of_wide 8 Try.f8 rfl rfl rfl rfl rfl rfl rfl ⟨rfl, rfl, rfl, rfl, rfl⟩ rfl rfl rfl rfl rfl (by kernel_rfl) Try.func8 (by kernel_rfl)
  (of_decide_eq_true (by kernel_rfl)) (by unfold Func.isWrapper; first | (rw [if_pos (by decide +kernel)]; kernel_rfl) | (rw [if_neg (by decide +kernel)]; exact ⟨rfl, rfl⟩))
  (fun os started H enc _ => lifted os started H enc)
theorem proved : Rows.LookupPlaysSaid := over
#print axioms proved
end Go.Proofs.Ytgnljbdobbahkaa.lookupPlays
