import Derived.Test.YtgnljbdobbahkaaRows
import Derived.WalkKit
import Derived.ProofKit
import Derived.OpenShut
import Derived.ShutString
import Derived.ChangeOld
import Derived.ChangeMaps5
import Derived.Below
import Derived.WideKeyPair
import Derived.SizedLaws
import Derived.Test.YtgnljbdobbahkaaSp1
namespace Go.Proofs.Ytgnljbdobbahkaa.indexBack
open Go.ChangeShapes Go.WideShapes Go.ChangeAt Go.RowKit
theorem own : ownKnob Try.prog.godebug = none := by kernel_rfl
theorem laidOut : laidOutB Try.prog = true := by kernel_rfl
theorem walk {μ : Gx.BMap} {h : Gx.AHeap} {w : World} (S : Gx.Start w μ h) {c0 : Gx.Slc} {l0 : List (Gx.DT.V Gc.T2D)} (R0 : Gx.Rep h (.list Gc.T2D) l0 [.slice c0.a c0.len c0.cap]) {c1 : Gx.Slc} {l1 : List Int} (R1 : Gx.Row Gx.encI h c1 l1) (B1 : ∀ z, c1.a = some z → z.block < h.next) (s2 : ByteArray) {v0 : Value} (V0 : Gx.VR μ (.slice c0.a c0.len c0.cap) v0) {v1 : Value} (V1 : Gx.VR μ (.slice c1.a c1.len c1.cap) v1) :
  Calls Try.prog 4 #[v0, v1, .string s2] w fun e w' => e = .returned (.bool true) ∧ Below w.heap.size w w' := by
 obtain ⟨k, hk⟩ : ∃ k, 20000 ≤ k := ⟨20000, Nat.le_refl _⟩
 obtain ⟨h', hp⟩ := Gc.back_rep hk  R0 R1 B1 s2
 have hrun : (Gc.e_law16_IndexBack k (Gc.DD k)).run Bool [.slice c0.a c0.len c0.cap, .slice c1.a c1.len c1.cap, .string s2] h (fun v _ => match v with | .bool b => some b | _ => none) = some true := by
  have e : (Gc.e_law16_IndexBack k (Gc.DD k)).run Bool [.slice c0.a c0.len c0.cap, .slice c1.a c1.len c1.cap, .string s2] h (fun v _ => match v with | .bool b => some b | _ => none)
   = (Gc.law16_IndexBack k (Gc.DD k) c0 c1 s2 h).bind fun r => some r.1 := by kernel_rfl
  rw [e]
  exact Gx.bnd hp rfl
 refine Gx.law_calls (Gc.ok_law16_IndexBack (Gc.DD_sound k) k) rfl Try.func4 rfl rfl hrun S.sim S.z (.cons V0 (.cons V1 (.cons (.str _) (.nil _)))) S.ro
set_option maxRecDepth 100000 in
theorem lifted (os : Os) (started : os.Started) (H : Type) (enc : TypeId × Value → H) :
  ReturnsInHanded {} Try.checked os 4 .any (Rows.indexBackSpec.pre6 enc Try.prog Try.f4 Rows.indexBackRow.domain false) (Rows.indexBackSpec.post enc Try.prog Try.f4 false true false false) := by
 refine returnsInHanded_of_change (C := Try.checked) own started (by kernel_rfl) Try.func4
  (ChangeSpec.witness6 (enc := enc) (C := Try.checked) false ⟨#[], #[.slice none 0 0, .slice none 0 0, .string ⟨#[]⟩], []⟩ 8 (by kernel_rfl) (by kernel_rfl) (by kernel_rfl) (by kernel_rfl)) ?_
 intro W base args ds gs before hval0 hW hcnd _
 have hval : ∀ (j : Nat) t v, Try.f4.params[j]? = some t → args[j]? = some v → Value.okWide Try.prog W .any base t v := hval0
 have hW' := hW
 obtain ⟨p, q, hA0, hV, rfl, hfz, hnd⟩ := hW
 have hA : DataW.TrodAll enc Try.prog W 0 (fun _ => true) true Try.f4.params.toList args.toList ds p := hA0
 have hA1 := hA
 rw [Try.params4] at hA hval hA1
 obtain ⟨v0, vs0, d0, ds0, p0, q0, hargs, rfl, rfl, h0, r0⟩ := trodAll_cons hA
 obtain ⟨v1, vs1, d1, ds1, p1, q1, rfl, rfl, rfl, h1, r1⟩ := trodAll_cons r0
 obtain ⟨v2, vs2, d2, ds2, p2, q2, rfl, rfl, rfl, h2, r2⟩ := trodAll_cons r1
 obtain ⟨rfl, rfl, rfl⟩ := trodAll_nil r2
 obtain rfl : args = #[v0, v1, v2] := by cases args; simp_all
 obtain ⟨rfl, rfl⟩ := trodVars_none hV
 obtain ⟨μ0, g0, c0, l0, m0, V0, R0⟩ := (Gx.Start.zero W).dataL (T := Gc.T2D) (d := 8) (by kernel_rfl) Try.underlying46 (hval 0 46 v0 rfl rfl) h0
 obtain ⟨μ1, g1, c1, l1, m1, V1, R1, b1, _⟩ := m0.st.ints Try.underlying47 Try.underlying3 (by kernel_rfl) (hval 1 47 v1 rfl rfl) h1
 obtain ⟨s2, rfl, _, _, _⟩ := Go.ChangeMaps.open_string Try.underlying9 (hval 2 9 v2 rfl rfl) h2
 clear hA0 hval0
 refine (walk m1.st (R0.keeps m1.kp) R1 (fun a ha => (b1 a ha).1) s2 (V0.mono m1.le) V1).mono fun e W' ⟨he, bel⟩ => ?_
 subst he
 exact ⟨_, rfl, _, _, _, [], _, [], hW', trodAll_mk1 (shut_bool Try.underlying4 _), Gx.trodAll_after laidOut bel (fun t ht => by
  have : t = 46 ∨ t = 47 ∨ t = 9 := by simpa using ht
  rcases this with rfl | rfl | rfl <;> exact ⟨by kernel_rfl, of_decide_eq_true (by kernel_rfl)⟩) hA1, rfl, bel.frame _, fun h => by cases h⟩
theorem over : Rows.indexBackRow.holds Try.pinned (OpenSpec.ofChange Rows.indexBackSpec) :=
 OpenClaim.holds_of_wide 4 Try.f4 rfl rfl rfl rfl rfl rfl rfl ⟨rfl, rfl, rfl, rfl, rfl⟩ rfl rfl rfl rfl rfl (by kernel_rfl) Try.func4 (by kernel_rfl)
  (of_decide_eq_true (by kernel_rfl)) (by unfold Func.isWrapper; first | (rw [if_pos (by decide +kernel)]; kernel_rfl) | (rw [if_neg (by decide +kernel)]; exact ⟨rfl, rfl⟩))
  (fun os started H enc _ => lifted os started H enc)
theorem proved : Rows.IndexBackSaid := over
#print axioms proved
end Go.Proofs.Ytgnljbdobbahkaa.indexBack
