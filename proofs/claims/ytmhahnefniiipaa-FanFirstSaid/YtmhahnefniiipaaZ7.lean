import Derived.Test.YtmhahnefniiipaaRows
import Derived.WalkKit
import Derived.ProofKit
import Derived.OpenShut
import Derived.ShutString
import Derived.ChangeOld
import Derived.ChangeMaps5
import Derived.Below
import Derived.WideKeyPair
import Derived.SizedLaws
import Derived.Test.YtmhahnefniiipaaSp2
namespace Go.Proofs.Ytmhahnefniiipaa.fanFirst
open Go.ChangeShapes Go.WideShapes Go.ChangeAt Go.RowKit
theorem own : ownKnob Try.prog.godebug = none := by kernel_rfl
theorem laidOut : laidOutB Try.prog = true := by kernel_rfl
theorem walk {μ : Gx.BMap} {h : Gx.AHeap} {w : World} (S : Gx.Start w μ h) {c0 : Gx.Slc} {l0 : List Int} (R0 : Gx.Row Gx.encI h c0 l0) (_B0 : ∀ z, c0.a = some z → z.block < h.next) (N0 : l0.length ≤ 17592186044416) {c1 : Gx.Slc} {l1 : List Int} (R1 : Gx.Row Gx.encI h c1 l1) (_B1 : ∀ z, c1.a = some z → z.block < h.next) (N1 : l1.length ≤ 17592186044416)  {v0 : Value} (V0 : Gx.VR μ (.slice c0.a c0.len c0.cap) v0) {v1 : Value} (V1 : Gx.VR μ (.slice c1.a c1.len c1.cap) v1) :
  Calls Try.prog 9 #[v0, v1] w fun e w' => e = .returned (.bool true) ∧ Below w.heap.size w w' := by
 obtain ⟨k, hk⟩ : ∃ k, (l0.length + l1.length + 100000) ≤ k := ⟨(l0.length + l1.length + 100000), Nat.le_refl _⟩
 obtain ⟨h', hp⟩ := Gs.first_rep hk  R0 N0 R1 N1
 have hrun : (Gs.e_law09_FanFirst k (Gs.DD k)).run Bool [.slice c0.a c0.len c0.cap, .slice c1.a c1.len c1.cap] h (fun v _ => match v with | .bool b => some b | _ => none) = some true := by
  have e : (Gs.e_law09_FanFirst k (Gs.DD k)).run Bool [.slice c0.a c0.len c0.cap, .slice c1.a c1.len c1.cap] h (fun v _ => match v with | .bool b => some b | _ => none)
   = (Gs.law09_FanFirst k (Gs.DD k) c0 c1 h).bind fun r => some r.1 := by kernel_rfl
  rw [e]
  exact Gx.bnd hp rfl
 refine Gx.law_calls (Gs.ok_law09_FanFirst (Gs.DD_sound k) k) rfl Try.func9 rfl rfl hrun S.sim S.z (.cons V0 (.cons V1 (.nil _))) S.ro
set_option maxRecDepth 100000 in
theorem lifted (os : Os) (started : os.Started) (H : Type) (enc : TypeId × Value → H) :
  ReturnsInHanded {} Try.checked os 9 .any (Rows.fanFirstSpec.pre6 enc Try.prog Try.f9 Rows.fanFirstRow.domain false) (Rows.fanFirstSpec.post enc Try.prog Try.f9 false true false false) := by
 refine returnsInHanded_of_change_sized (C := Try.checked) own started (by kernel_rfl) Try.func9
  (ChangeSpec.witness6 (enc := enc) (C := Try.checked) false ⟨#[], #[.slice none 0 0, .slice none 0 0], []⟩ 8 (by kernel_rfl) (by kernel_rfl) (by kernel_rfl) (by kernel_rfl)) ?_
 intro W base args ds gs before hval0 hW hcnd hsize _
 have hval : ∀ (j : Nat) t v, Try.f9.params[j]? = some t → args[j]? = some v → Value.okWide Try.prog W .any base t v := hval0
 have hW' := hW
 obtain ⟨p, q, hA0, hV, rfl, hfz, hnd⟩ := hW
 have hA : DataW.TrodAll enc Try.prog W 0 (fun _ => true) true Try.f9.params.toList args.toList ds p := hA0
 have hA1 := hA
 rw [Try.params9] at hA hval hA1
 obtain ⟨v0, vs0, d0, ds0, p0, q0, hargs, rfl, rfl, h0, r0⟩ := trodAll_cons hA
 obtain ⟨v1, vs1, d1, ds1, p1, q1, rfl, rfl, rfl, h1, r1⟩ := trodAll_cons r0
 obtain ⟨rfl, rfl, rfl⟩ := trodAll_nil r1
 obtain rfl : args = #[v0, v1] := by cases args; simp_all
 obtain ⟨rfl, rfl⟩ := trodVars_none hV
 obtain ⟨μ0, g0, c0, l0, m0, V0, R0, b0, z0⟩ := (Gx.Start.zero W).ints Try.underlying88 Try.underlying3 (by kernel_rfl) (hval 0 88 v0 rfl rfl) h0
 obtain ⟨μ1, g1, c1, l1, m1, V1, R1, b1, z1⟩ := m0.st.ints Try.underlying88 Try.underlying3 (by kernel_rfl) (hval 1 88 v1 rfl rfl) h1
 have rb := reachBytes_lt
 have n0 : l0.length ≤ 17592186044416 := by
  rcases z0 with rfl | ⟨sp, rfl⟩
  ·simp
  ·have := sized_slice hsize (j := 0) (t := 88) (e := 3) rfl rfl Try.underlying88
   rw [Gx.lits_length, show Try.checked.prog.bytesOf 3 = 8 from by kernel_rfl] at this
   omega
 have n1 : l1.length ≤ 17592186044416 := by
  rcases z1 with rfl | ⟨sp, rfl⟩
  ·simp
  ·have := sized_slice hsize (j := 1) (t := 88) (e := 3) rfl rfl Try.underlying88
   rw [Gx.lits_length, show Try.checked.prog.bytesOf 3 = 8 from by kernel_rfl] at this
   omega
 clear hA0 hval0
 refine (walk m1.st (R0.keeps m1.kp) (fun a ha => Nat.lt_of_lt_of_le (b0 a ha).1 m1.kp.nx) n0 R1 (fun a ha => (b1 a ha).1) n1  (V0.mono m1.le) V1).mono fun e W' ⟨he, bel⟩ => ?_
 subst he
 exact ⟨_, rfl, _, _, _, [], _, [], hW', trodAll_mk1 (shut_bool Try.underlying4 _), Gx.trodAll_after laidOut bel (fun t ht => by
  have : t = 88 ∨ t = 88 := by simpa using ht
  rcases this with rfl | rfl <;> exact ⟨by kernel_rfl, of_decide_eq_true (by kernel_rfl)⟩) hA1, rfl, bel.frame _, fun h => by cases h⟩
theorem over : Rows.fanFirstRow.holds Try.pinned (OpenSpec.ofChange Rows.fanFirstSpec) :=
 OpenClaim.holds_of_wide 9 Try.f9 rfl rfl rfl rfl rfl rfl rfl ⟨rfl, rfl, rfl, rfl, rfl⟩ rfl rfl rfl rfl rfl (by kernel_rfl) Try.func9 (by kernel_rfl)
  (of_decide_eq_true (by kernel_rfl)) (by unfold Func.isWrapper; first | (rw [if_pos (by decide +kernel)]; kernel_rfl) | (rw [if_neg (by decide +kernel)]; exact ⟨rfl, rfl⟩))
  (fun os started H enc _ => lifted os started H enc)
theorem proved : Rows.FanFirstSaid := over
#print axioms proved
end Go.Proofs.Ytmhahnefniiipaa.fanFirst
