import Derived.Test.YtcacldakplomnaaGreatRows
import Derived.WalkKit
import Derived.ProofKit
import Derived.OpenShut
import Derived.ShutString
import Derived.ChangeOld
import Derived.ChangeMaps5
import Derived.Below
import Derived.WideKeyPair
import Derived.SizedLaws
import Derived.Test.YtcacldakplomnaaGreatSp3
namespace Go.Proofs.YtcacldakplomnaaGreat.stripeJoins
open Go.ChangeShapes Go.WideShapes Go.ChangeAt Go.RowKit
theorem own : ownKnob Tryz.prog.godebug = none := by kernel_rfl
theorem laidOut : laidOutB Tryz.prog = true := by kernel_rfl
theorem walk {μ : Gx.BMap} {h : Gx.AHeap} {w : World} (S : Gx.Start w μ h) {c1 : Gx.Slc} {l1 : List (Gx.DT.V Gq.prT)} (R1 : Gx.Rep h (.list Gq.prT) l1 [.slice c1.a c1.len c1.cap]) (a0 : Int) (b0 : Int) (a2 : Int) (b2 : Int) {v0 : Value} (V0 : Gx.VR μ (.agg #[.int .i64 a0, .int .i64 b0]) v0) {v1 : Value} (V1 : Gx.VR μ (.slice c1.a c1.len c1.cap) v1) {v2 : Value} (V2 : Gx.VR μ (.agg #[.int .i64 a2, .int .i64 b2]) v2) :
  Calls Tryz.prog 3 #[v0, v1, v2] w fun e w' => e = .returned (.bool true) ∧ Below w.heap.size w w' := by
 obtain ⟨k, hk⟩ : ∃ k, 200000 ≤ k := ⟨200000, Nat.le_refl _⟩
 obtain ⟨h', hp⟩ := Gq.joins_rep hk  (a0, b0) R1 (a2, b2)
 have hrun : (Gq.e_law05_StripeJoins k (Gq.DD k)).run Bool [.agg #[.int .i64 a0, .int .i64 b0], .slice c1.a c1.len c1.cap, .agg #[.int .i64 a2, .int .i64 b2]] h (fun v _ => match v with | .bool b => some b | _ => none) = some true := by
  have e : (Gq.e_law05_StripeJoins k (Gq.DD k)).run Bool [.agg #[.int .i64 a0, .int .i64 b0], .slice c1.a c1.len c1.cap, .agg #[.int .i64 a2, .int .i64 b2]] h (fun v _ => match v with | .bool b => some b | _ => none)
   = (Gq.law05_StripeJoins k (Gq.DD k) (a0, b0) c1 (a2, b2) h).bind fun r => some r.1 := by kernel_rfl
  rw [e]
  exact Gx.bnd hp rfl
 refine Gx.law_calls (Gq.ok_law05_StripeJoins (Gq.DD_sound k) k) rfl Tryz.func3 rfl rfl hrun S.sim S.z (.cons V0 (.cons V1 (.cons V2 (.nil _)))) S.ro
set_option maxRecDepth 100000 in
theorem lifted (os : Os) (started : os.Started) (H : Type) (enc : TypeId × Value → H) :
  ReturnsInHanded {} Tryz.checked os 3 .any (Rows.stripeJoinsSpec.pre6 enc Tryz.prog Tryz.f3 Rows.stripeJoinsRow.domain false) (Rows.stripeJoinsSpec.post enc Tryz.prog Tryz.f3 false true false false) := by
 refine returnsInHanded_of_change (C := Tryz.checked) own started (by kernel_rfl) Tryz.func3
  (ChangeSpec.witness6 (enc := enc) (C := Tryz.checked) false ⟨#[], #[.agg #[.int .i64 0, .int .i64 0], .slice none 0 0, .agg #[.int .i64 0, .int .i64 0]], []⟩ 8 (by kernel_rfl) (by kernel_rfl) (by kernel_rfl) (by kernel_rfl)) ?_
 intro W base args ds gs before hval0 hW hcnd _
 have hval : ∀ (j : Nat) t v, Tryz.f3.params[j]? = some t → args[j]? = some v → Value.okWide Tryz.prog W .any base t v := hval0
 have hW' := hW
 obtain ⟨p, q, hA0, hV, rfl, hfz, hnd⟩ := hW
 have hA : DataW.TrodAll enc Tryz.prog W 0 (fun _ => true) true Tryz.f3.params.toList args.toList ds p := hA0
 have hA1 := hA
 rw [Tryz.params3] at hA hval hA1
 obtain ⟨v0, vs0, d0, ds0, p0, q0, hargs, rfl, rfl, h0, r0⟩ := trodAll_cons hA
 obtain ⟨v1, vs1, d1, ds1, p1, q1, rfl, rfl, rfl, h1, r1⟩ := trodAll_cons r0
 obtain ⟨v2, vs2, d2, ds2, p2, q2, rfl, rfl, rfl, h2, r2⟩ := trodAll_cons r1
 obtain ⟨rfl, rfl, rfl⟩ := trodAll_nil r2
 obtain rfl : args = #[v0, v1, v2] := by cases args; simp_all
 obtain ⟨rfl, rfl⟩ := trodVars_none hV
 obtain ⟨μ1, g1, c1, l1, m1, V1, R1⟩ := (Gx.Start.zero W).dataL (T := Gq.prT) (d := 8) (by kernel_rfl) Tryz.underlying23 (hval 1 23 v1 rfl rfl) h1
 obtain ⟨a0, b0, _, V0⟩ := Gx.open_duo (μ := μ1) Tryz.underlying22 Tryz.underlying3 (by kernel_rfl) (by kernel_rfl) (hval 0 22 v0 rfl rfl) h0
 obtain ⟨a2, b2, _, V2⟩ := Gx.open_duo (μ := μ1) Tryz.underlying22 Tryz.underlying3 (by kernel_rfl) (by kernel_rfl) (hval 2 22 v2 rfl rfl) h2
 clear hA0 hval0
 refine (walk m1.st R1 a0 b0 a2 b2 V0 V1 V2).mono fun e W' ⟨he, bel⟩ => ?_
 subst he
 exact ⟨_, rfl, _, _, _, [], _, [], hW', trodAll_mk1 (shut_bool Tryz.underlying4 _), Gx.trodAll_after laidOut bel (fun t ht => by
  have : t = 22 ∨ t = 23 ∨ t = 22 := by simpa using ht
  rcases this with rfl | rfl | rfl <;> exact ⟨by kernel_rfl, of_decide_eq_true (by kernel_rfl)⟩) hA1, rfl, bel.frame _, fun h => by cases h⟩
theorem over : Rows.stripeJoinsRow.holds Tryz.pinned (OpenSpec.ofChange Rows.stripeJoinsSpec) :=
 OpenClaim.holds_of_wide 3 Tryz.f3 rfl rfl rfl rfl rfl rfl rfl ⟨rfl, rfl, rfl, rfl, rfl⟩ rfl rfl rfl rfl rfl (by kernel_rfl) Tryz.func3 (by kernel_rfl)
  (of_decide_eq_true (by kernel_rfl)) (by unfold Func.isWrapper; first | (rw [if_pos (by decide +kernel)]; kernel_rfl) | (rw [if_neg (by decide +kernel)]; exact ⟨rfl, rfl⟩))
  (fun os started H enc _ => lifted os started H enc)
theorem proved : Rows.StripeJoinsSaid := over
#print axioms proved
end Go.Proofs.YtcacldakplomnaaGreat.stripeJoins
