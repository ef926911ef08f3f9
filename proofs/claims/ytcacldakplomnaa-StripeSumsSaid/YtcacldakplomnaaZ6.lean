import Derived.Test.YtcacldakplomnaaRows
import Derived.WalkKit
import Derived.ProofKit
import Derived.OpenShut
import Derived.ShutString
import Derived.ChangeOld
import Derived.ChangeMaps5
import Derived.Below
import Derived.WideKeyPair
import Derived.SizedLaws
import Derived.Test.YtcacldakplomnaaSp1
namespace Go.Proofs.Ytcacldakplomnaa.stripeSums
open Go.ChangeShapes Go.WideShapes Go.ChangeAt Go.RowKit
theorem own : ownKnob Try.prog.godebug = none := by kernel_rfl
theorem laidOut : laidOutB Try.prog = true := by kernel_rfl
theorem walk (a0 : Int) (b0 : Int) (s1 : ByteArray) (s2 : ByteArray) {v0 : Value} (V0 : Gx.VR (fun _ => none) (.agg #[.int .i64 a0, .int .i64 b0]) v0) (w : World) :
    Calls Try.prog 5 #[v0, .string s1, .string s2] w fun e w' => e = .returned (.bool true) ∧ Below w.heap.size w w' := by
  obtain ⟨k, hk⟩ : ∃ k, 200000 ≤ k := ⟨200000, Nat.le_refl _⟩
  obtain ⟨h', hp⟩ := Gb.sums5_true hk  (a0, b0) s1 s2 Gx.h0
  have hrun : (Gb.e_law05_StripeSums k (Gb.DD k)).run Bool [.agg #[.int .i64 a0, .int .i64 b0], .string s1, .string s2] Gx.h0 (fun v _ => match v with | .bool b => some b | _ => none) = some true := by
    have e : (Gb.e_law05_StripeSums k (Gb.DD k)).run Bool [.agg #[.int .i64 a0, .int .i64 b0], .string s1, .string s2] Gx.h0 (fun v _ => match v with | .bool b => some b | _ => none)
      = (Gb.law05_StripeSums k (Gb.DD k) (a0, b0) s1 s2 Gx.h0).bind fun r => some r.1 := by kernel_rfl
    rw [e]
    exact Gx.bnd hp rfl
  refine Gx.law_calls (Gb.ok_law05_StripeSums (Gb.DD_sound k) k) rfl Try.func5 rfl rfl hrun (Gx.sim0 w) (fun _ _ => rfl) (.cons V0 (.cons (.str _) (.cons (.str _) (.nil _)))) (fun b B hb => by cases hb)
set_option maxRecDepth 100000 in
theorem lifted (os : Os) (started : os.Started) (H : Type) (enc : TypeId × Value → H) :
    ReturnsInHanded {} Try.checked os 5 .any (Rows.stripeSumsSpec.pre6 enc Try.prog Try.f5 Rows.stripeSumsRow.domain false) (Rows.stripeSumsSpec.post enc Try.prog Try.f5 false true false false) := by
  refine returnsInHanded_of_change (C := Try.checked) own started (by kernel_rfl) Try.func5
    (ChangeSpec.witness6 (enc := enc) (C := Try.checked) false ⟨#[], #[.agg #[.int .i64 0, .int .i64 0], .string ⟨#[]⟩, .string ⟨#[]⟩], []⟩ 8 (by kernel_rfl) (by kernel_rfl) (by kernel_rfl) (by kernel_rfl)) ?_
  intro W base args ds gs before hval0 hW hcnd _
  have hval : ∀ (j : Nat) t v, Try.f5.params[j]? = some t → args[j]? = some v → Value.okWide Try.prog W .any base t v := hval0
  have hW' := hW
  obtain ⟨p, q, hA0, hV, rfl, hfz, hnd⟩ := hW
  have hA : DataW.TrodAll enc Try.prog W 0 (fun _ => true) true Try.f5.params.toList args.toList ds p := hA0
  have hA1 := hA
  rw [Try.params5] at hA hval hA1
  obtain ⟨v0, vs0, d0, ds0, p0, q0, hargs, rfl, rfl, h0, r0⟩ := trodAll_cons hA
  obtain ⟨v1, vs1, d1, ds1, p1, q1, rfl, rfl, rfl, h1, r1⟩ := trodAll_cons r0
  obtain ⟨v2, vs2, d2, ds2, p2, q2, rfl, rfl, rfl, h2, r2⟩ := trodAll_cons r1
  obtain ⟨rfl, rfl, rfl⟩ := trodAll_nil r2
  obtain rfl : args = #[v0, v1, v2] := by cases args; simp_all
  obtain ⟨rfl, rfl⟩ := trodVars_none hV
  obtain ⟨a0, b0, _, V0⟩ := Gx.open_duo (μ := fun _ => none) Try.underlying40 Try.underlying3 (by kernel_rfl) (by kernel_rfl) (hval 0 40 v0 rfl rfl) h0
  obtain ⟨s1, rfl, _, _, _⟩ := Go.ChangeMaps.open_string Try.underlying9 (hval 1 9 v1 rfl rfl) h1
  obtain ⟨s2, rfl, _, _, _⟩ := Go.ChangeMaps.open_string Try.underlying9 (hval 2 9 v2 rfl rfl) h2
  clear hA0 hval0
  refine (walk  a0 b0 s1 s2 V0 W).mono fun e W' ⟨he, bel⟩ => ?_
  subst he
  exact ⟨_, rfl, _, _, _, [], _, [], hW', trodAll_mk1 (shut_bool Try.underlying4 _), Gx.trodAll_after laidOut bel (fun t ht => by
    have : t = 40 ∨ t = 9 ∨ t = 9 := by simpa using ht
    rcases this with rfl | rfl | rfl <;> exact ⟨by kernel_rfl, of_decide_eq_true (by kernel_rfl)⟩) hA1, rfl, bel.frame _, fun h => by cases h⟩
theorem over : Rows.stripeSumsRow.holds Try.pinned (OpenSpec.ofChange Rows.stripeSumsSpec) :=
  OpenClaim.holds_of_wide 5 Try.f5 rfl rfl rfl rfl rfl rfl rfl ⟨rfl, rfl, rfl, rfl, rfl⟩ rfl rfl rfl rfl rfl (by kernel_rfl) Try.func5 (by kernel_rfl)
    (of_decide_eq_true (by kernel_rfl)) (by unfold Func.isWrapper; first | (rw [if_pos (by decide +kernel)]; kernel_rfl) | (rw [if_neg (by decide +kernel)]; exact ⟨rfl, rfl⟩))
    (fun os started H enc _ => lifted os started H enc)
theorem proved : Rows.StripeSumsSaid := over
#print axioms proved
end Go.Proofs.Ytcacldakplomnaa.stripeSums
