import Derived.Test.YtmhahnefniiipaaGreatRows
import Derived.WalkKit
import Derived.ProofKit
import Derived.OpenShut
import Derived.ShutString
import Derived.ChangeOld
import Derived.ChangeMaps5
import Derived.Below
import Derived.WideKeyPair
import Derived.SizedLaws
import Derived.Test.YtmhahnefniiipaaGreatSp2
namespace Go.Proofs.YtmhahnefniiipaaGreat.fanCalls
open Go.ChangeShapes Go.WideShapes Go.ChangeAt Go.RowKit
theorem own : ownKnob Tryz.prog.godebug = none := by kernel_rfl
theorem laidOut : laidOutB Tryz.prog = true := by kernel_rfl
theorem walk {μ : Gx.BMap} {h : Gx.AHeap} {w : World} (S : Gx.Start w μ h) {c1 : Gx.Slc} {l1 : List ByteArray} (R1 : Gx.Row Gx.encS h c1 l1) (B1 : ∀ z, c1.a = some z → z.block < h.next) (s0 : ByteArray) (z0 : s0.size ≤ 9223372036854775807) (a2 : Int) {v1 : Value} (V1 : Gx.VR μ (.slice c1.a c1.len c1.cap) v1) :
  Calls Tryz.prog 3 #[.string s0, v1, .int .i64 a2] w fun e w' => e = .returned (.bool true) ∧ Below w.heap.size w w' := by
 obtain ⟨k, hk⟩ : ∃ k, (400000000 + s0.size) ≤ k := ⟨(400000000 + s0.size), Nat.le_refl _⟩
 obtain ⟨h', hp⟩ := Gt.fanCalls_rep hk z0 R1 B1 a2
 have hrun : (Gt.e_law09_FanCalls k (Gt.DD k)).run Bool [.string s0, .slice c1.a c1.len c1.cap, .int .i64 a2] h (fun v _ => match v with | .bool b => some b | _ => none) = some true := by
  have e : (Gt.e_law09_FanCalls k (Gt.DD k)).run Bool [.string s0, .slice c1.a c1.len c1.cap, .int .i64 a2] h (fun v _ => match v with | .bool b => some b | _ => none)
   = (Gt.law09_FanCalls k (Gt.DD k) s0 c1 a2 h).bind fun r => some r.1 := by kernel_rfl
  rw [e]
  exact Gx.bnd hp rfl
 refine Gx.law_calls (Gt.ok_law09_FanCalls (Gt.DD_sound k) k) rfl Tryz.func3 rfl rfl hrun S.sim S.z (.cons (.str _) (.cons V1 (.cons (.int _ _) (.nil _)))) S.ro
set_option maxRecDepth 100000 in
theorem lifted (os : Os) (started : os.Started) (H : Type) (enc : TypeId × Value → H) :
  ReturnsInHanded {} Tryz.checked os 3 .any (Rows.fanCallsSpec.pre6 enc Tryz.prog Tryz.f3 Rows.fanCallsRow.domain false) (Rows.fanCallsSpec.post enc Tryz.prog Tryz.f3 false true false false) := by
 refine returnsInHanded_of_change (C := Tryz.checked) own started (by kernel_rfl) Tryz.func3
  (ChangeSpec.witness6 (enc := enc) (C := Tryz.checked) false ⟨#[], #[.string ⟨#[]⟩, .slice none 0 0, .int .i64 0], []⟩ 8 (by kernel_rfl) (by kernel_rfl) (by kernel_rfl) (by kernel_rfl)) ?_
 intro W base args ds gs before hval0 hW hcnd _
 have hval : ∀ (j : Nat) t v, Tryz.f3.params[j]? = some t → args[j]? = some v → Value.okWide Tryz.prog W .any base t v := hval0
 have hW' := hW
 obtain ⟨p, q, hA0, hV, rfl, hfz, hnd⟩ := hW
 have hA : DataW.TrodAll enc Tryz.prog W 0 (fun _ => true) true Tryz.f3.params.toList args.toList ds p := hA0
 have hA1 := hA
 rw [Tryz.params3] at hA hval hA1
 obtain ⟨v0, vs0, d0, ds0, p0, q0, hargs, rfl, rfl, h0, r0⟩ := trodAll_cons hA
 obtain ⟨v1, vs1, d1, ds1, p1, q1, rfl, rfl, rfl, h1, r1⟩ := trodAll_cons r0
 obtain ⟨v2, vs2, d2, ds2, p2, q2, rfl, rfl, rfl, h2, r2⟩ := trodAll_cons r1
 obtain ⟨rfl, rfl, rfl⟩ := trodAll_nil r2
 obtain rfl : args = #[v0, v1, v2] := by cases args; simp_all
 obtain ⟨rfl, rfl⟩ := trodVars_none hV
 obtain ⟨μ1, g1, c1, l1, m1, V1, R1, b1, _⟩ := (Gx.Start.zero W).texts Tryz.underlying22 Tryz.underlying9 (by kernel_rfl) (hval 1 22 v1 rfl rfl) h1
 obtain ⟨s0, rfl, _, _, z0⟩ := Go.ChangeMaps.open_string Tryz.underlying9 (hval 0 9 v0 rfl rfl) h0
 obtain ⟨a2, rfl, _, _, _⟩ := open_int Tryz.underlying3 (hval 2 3 v2 rfl rfl) h2
 clear hA0 hval0
 refine (walk m1.st R1 (fun a ha => (b1 a ha).1) s0 z0 a2 V1).mono fun e W' ⟨he, bel⟩ => ?_
 subst he
 exact ⟨_, rfl, _, _, _, [], _, [], hW', trodAll_mk1 (shut_bool Tryz.underlying4 _), Gx.trodAll_after laidOut bel (fun t ht => by
  have : t = 9 ∨ t = 22 ∨ t = 3 := by simpa using ht
  rcases this with rfl | rfl | rfl <;> exact ⟨by kernel_rfl, of_decide_eq_true (by kernel_rfl)⟩) hA1, rfl, bel.frame _, fun h => by cases h⟩
theorem over : Rows.fanCallsRow.holds Tryz.pinned (OpenSpec.ofChange Rows.fanCallsSpec) :=
 OpenClaim.holds_of_wide 3 Tryz.f3 rfl rfl rfl rfl rfl rfl rfl ⟨rfl, rfl, rfl, rfl, rfl⟩ rfl rfl rfl rfl rfl (by kernel_rfl) Tryz.func3 (by kernel_rfl)
  (of_decide_eq_true (by kernel_rfl)) (by unfold Func.isWrapper; first | (rw [if_pos (by decide +kernel)]; kernel_rfl) | (rw [if_neg (by decide +kernel)]; exact ⟨rfl, rfl⟩))
  (fun os started H enc _ => lifted os started H enc)
theorem proved : Rows.FanCallsSaid := over
#print axioms proved
end Go.Proofs.YtmhahnefniiipaaGreat.fanCalls
