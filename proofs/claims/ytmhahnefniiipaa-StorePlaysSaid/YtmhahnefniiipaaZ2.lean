import Derived.Test.YtmhahnefniiipaaRows
import Derived.WalkKit
import Derived.ProofKit
import Derived.OpenShut
import Derived.ShutString
import Derived.ChangeOld
import Derived.ChangeMaps5
import Derived.Below
import Derived.WideKeyPair
import Derived.SizedLaws
import Derived.Test.YtmhahnefniiipaaSp1
namespace Go.Proofs.Ytmhahnefniiipaa.storePlays
open Go.ChangeShapes Go.WideShapes Go.ChangeAt Go.RowKit
theorem own : ownKnob Try.prog.godebug = none := by kernel_rfl
theorem laidOut : laidOutB Try.prog = true := by kernel_rfl
theorem walk {μ : Gx.BMap} {h : Gx.AHeap} {w : World} (S : Gx.Start w μ h) {c1 : Gx.Slc} {l1 : List (Gx.DT.V Gs.actT)} (R1 : Gx.Rep h (.list Gs.actT) l1 [.slice c1.a c1.len c1.cap]) (a0 : Int) {v1 : Value} (V1 : Gx.VR μ (.slice c1.a c1.len c1.cap) v1) :
  Calls Try.prog 4 #[.int .i64 a0, v1] w fun e w' => e = .returned (.bool true) ∧ Below w.heap.size w w' := by
 obtain ⟨k, hk⟩ : ∃ k, (Gs.needP l1) ≤ k := ⟨(Gs.needP l1), Nat.le_refl _⟩
 obtain ⟨h', hp⟩ := Gs.plays_rep hk Gx.noC a0 R1
 have hrun : (Gs.e_law07_StorePlays k Gx.noC).run Bool [.int .i64 a0, .slice c1.a c1.len c1.cap] h (fun v _ => match v with | .bool b => some b | _ => none) = some true := by
  have e : (Gs.e_law07_StorePlays k Gx.noC).run Bool [.int .i64 a0, .slice c1.a c1.len c1.cap] h (fun v _ => match v with | .bool b => some b | _ => none)
   = (Gs.law07_StorePlays k Gx.noC a0 c1 h).bind fun r => some r.1 := by kernel_rfl
  rw [e]
  exact Gx.bnd hp rfl
 refine Gx.law_calls (Gs.ok_law07_StorePlays Gx.noC_sound k) rfl Try.func4 rfl rfl hrun S.sim S.z (.cons (.int _ _) (.cons V1 (.nil _))) S.ro
set_option maxRecDepth 100000 in
theorem lifted (os : Os) (started : os.Started) (H : Type) (enc : TypeId × Value → H) :
  ReturnsInHanded {} Try.checked os 4 .any (Rows.storePlaysSpec.pre6 enc Try.prog Try.f4 Rows.storePlaysRow.domain false) (Rows.storePlaysSpec.post enc Try.prog Try.f4 false true false false) := by
 refine returnsInHanded_of_change (C := Try.checked) own started (by kernel_rfl) Try.func4
  (ChangeSpec.witness6 (enc := enc) (C := Try.checked) false ⟨#[], #[.int .i64 0, .slice none 0 0], []⟩ 8 (by kernel_rfl) (by kernel_rfl) (by kernel_rfl) (by kernel_rfl)) ?_
 intro W base args ds gs before hval0 hW hcnd _
 have hval : ∀ (j : Nat) t v, Try.f4.params[j]? = some t → args[j]? = some v → Value.okWide Try.prog W .any base t v := hval0
 have hW' := hW
 obtain ⟨p, q, hA0, hV, rfl, hfz, hnd⟩ := hW
 have hA : DataW.TrodAll enc Try.prog W 0 (fun _ => true) true Try.f4.params.toList args.toList ds p := hA0
 have hA1 := hA
 rw [Try.params4] at hA hval hA1
 obtain ⟨v0, vs0, d0, ds0, p0, q0, hargs, rfl, rfl, h0, r0⟩ := trodAll_cons hA
 obtain ⟨v1, vs1, d1, ds1, p1, q1, rfl, rfl, rfl, h1, r1⟩ := trodAll_cons r0
 obtain ⟨rfl, rfl, rfl⟩ := trodAll_nil r1
 obtain rfl : args = #[v0, v1] := by cases args; simp_all
 obtain ⟨rfl, rfl⟩ := trodVars_none hV
 obtain ⟨μ1, g1, c1, l1, m1, V1, R1⟩ := (Gx.Start.zero W).dataL (T := Gs.actT) (d := 8) (by kernel_rfl) Try.underlying38 (hval 1 38 v1 rfl rfl) h1
 obtain ⟨a0, rfl, _, _, _⟩ := open_int Try.underlying3 (hval 0 3 v0 rfl rfl) h0
 clear hA0 hval0
 refine (walk m1.st R1 a0 V1).mono fun e W' ⟨he, bel⟩ => ?_
 subst he
 exact ⟨_, rfl, _, _, _, [], _, [], hW', trodAll_mk1 (shut_bool Try.underlying4 _), Gx.trodAll_after laidOut bel (fun t ht => by
  have : t = 3 ∨ t = 38 := by simpa using ht
  rcases this with rfl | rfl <;> exact ⟨by kernel_rfl, of_decide_eq_true (by kernel_rfl)⟩) hA1, rfl, bel.frame _, fun h => by cases h⟩
theorem over : Rows.storePlaysRow.holds Try.pinned (OpenSpec.ofChange Rows.storePlaysSpec) :=
 OpenClaim.holds_of_wide 4 Try.f4 rfl rfl rfl rfl rfl rfl rfl ⟨rfl, rfl, rfl, rfl, rfl⟩ rfl rfl rfl rfl rfl (by kernel_rfl) Try.func4 (by kernel_rfl)
  (of_decide_eq_true (by kernel_rfl)) (by unfold Func.isWrapper; first | (rw [if_pos (by decide +kernel)]; kernel_rfl) | (rw [if_neg (by decide +kernel)]; exact ⟨rfl, rfl⟩))
  (fun os started H enc _ => lifted os started H enc)
theorem proved : Rows.StorePlaysSaid := over
#print axioms proved
end Go.Proofs.Ytmhahnefniiipaa.storePlays
