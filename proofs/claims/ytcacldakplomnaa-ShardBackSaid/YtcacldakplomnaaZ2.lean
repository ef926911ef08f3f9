import Derived.Test.YtcacldakplomnaaRows
import Derived.WalkKit
import Derived.ProofKit
import Derived.OpenShut
import Derived.ShutString
import Derived.ChangeOld
import Derived.ChangeMaps5
import Derived.Below
import Derived.WideKeyPair
import Derived.SizedLaws
import Derived.Test.YtcacldakplomnaaSp1
namespace Go.Proofs.Ytcacldakplomnaa.shardBack
open Go.ChangeShapes Go.WideShapes Go.ChangeAt Go.RowKit
theorem own : ownKnob Try.prog.godebug = none := by kernel_rfl
theorem laidOut : laidOutB Try.prog = true := by kernel_rfl
theorem walk (x : Gb.Sh) (s : ByteArray) {v0 : Value} (V0 : Gx.VR (fun _ => none) (.agg ⟨Gb.shC x⟩) v0) (w : World) :
    Calls Try.prog 4 #[v0, .string s] w fun e w' => e = .returned (.bool true) ∧ Below w.heap.size w w' := by
  obtain ⟨k, hk⟩ : ∃ k, 70000 ≤ k := ⟨70000, Nat.le_refl _⟩
  obtain ⟨h', hp⟩ := Gb.back_true hk Gx.noC x s Gx.h0
  have hrun : (Gb.e_law06_ShardBack k Gx.noC).run Bool [.agg ⟨Gb.shC x⟩, .string s] Gx.h0 (fun v _ => match v with | .bool b => some b | _ => none) = some true := by
    have e : (Gb.e_law06_ShardBack k Gx.noC).run Bool [.agg ⟨Gb.shC x⟩, .string s] Gx.h0 (fun v _ => match v with | .bool b => some b | _ => none)
      = (Gb.law06_ShardBack k Gx.noC (x.1, x.2.1, x.2.2.1, x.2.2.2.1, x.2.2.2.2.1, x.2.2.2.2.2) s Gx.h0).bind fun r => some r.1 := by kernel_rfl
    rw [e]
    exact Gx.bnd hp rfl
  refine Gx.law_calls (Gb.ok_law06_ShardBack Gx.noC_sound k) rfl Try.func4 rfl rfl hrun (Gx.sim0 w) (fun _ _ => rfl) ?_ (fun b B hb => by cases hb)
  exact .cons V0 (.cons (.str _) (.nil _))
set_option maxRecDepth 100000 in
theorem lifted (os : Os) (started : os.Started) (H : Type) (enc : TypeId × Value → H) :
    ReturnsInHanded {} Try.checked os 4 .any (Rows.shardBackSpec.pre6 enc Try.prog Try.f4 Rows.shardBackRow.domain false) (Rows.shardBackSpec.post enc Try.prog Try.f4 false true false false) := by
  refine returnsInHanded_of_change (C := Try.checked) own started (by kernel_rfl) Try.func4
    (ChangeSpec.witness6 (enc := enc) (C := Try.checked) false ⟨#[], #[.agg #[.int .i64 0, .int .i64 0, .int .i64 0, .int .i64 0, .string ⟨#[]⟩, .string ⟨#[]⟩], .string ⟨#[]⟩], []⟩ 8 (by kernel_rfl) (by kernel_rfl) (by kernel_rfl) (by kernel_rfl)) ?_
  intro W base args ds gs before hval0 hW hcnd _
  have hval : ∀ (j : Nat) t v, Try.f4.params[j]? = some t → args[j]? = some v → Value.okWide Try.prog W .any base t v := hval0
  have hW' := hW
  obtain ⟨p, q, hA0, hV, rfl, hfz, hnd⟩ := hW
  have hA : DataW.TrodAll enc Try.prog W 0 (fun _ => true) true Try.f4.params.toList args.toList ds p := hA0
  have hA1 := hA
  rw [Try.params4] at hA hval hA1
  obtain ⟨v0, vs0, d0, ds0, p0, q0, hargs, rfl, rfl, h0, r0⟩ := trodAll_cons hA
  obtain ⟨v1, vs1, d1, ds1, p1, q1, rfl, rfl, rfl, h1, r1⟩ := trodAll_cons r0
  obtain ⟨rfl, rfl, rfl⟩ := trodAll_nil r1
  obtain rfl : args = #[v0, v1] := by cases args; simp_all
  obtain ⟨rfl, rfl⟩ := trodVars_none hV
  obtain ⟨x, _, V0⟩ := Gx.open_flat (ts := [.i .i64, .i .i64, .i .i64, .i .i64, .s, .s]) Try.underlying23 (by kernel_rfl) (by kernel_rfl) (by kernel_rfl) (hval 0 23 v0 rfl rfl) h0
  obtain ⟨s, rfl, _, _, _⟩ := Go.ChangeMaps.open_string Try.underlying9 (hval 1 9 v1 rfl rfl) h1
  clear hA0 hval0
  refine (walk x s (V0 _) W).mono fun e W' ⟨he, bel⟩ => ?_
  subst he
  exact ⟨_, rfl, _, _, _, [], _, [], hW', trodAll_mk1 (shut_bool Try.underlying4 _), Gx.trodAll_after laidOut bel (fun t ht => by
    have : t = 23 ∨ t = 9 := by simpa using ht
    rcases this with rfl | rfl <;> exact ⟨by kernel_rfl, of_decide_eq_true (by kernel_rfl)⟩) hA1, rfl, bel.frame _, fun h => by cases h⟩
theorem over : Rows.shardBackRow.holds Try.pinned (OpenSpec.ofChange Rows.shardBackSpec) :=
  OpenClaim.holds_of_wide 4 Try.f4 rfl rfl rfl rfl rfl rfl rfl ⟨rfl, rfl, rfl, rfl, rfl⟩ rfl rfl rfl rfl rfl (by kernel_rfl) Try.func4 (by kernel_rfl)
    (of_decide_eq_true (by kernel_rfl)) (by unfold Func.isWrapper; first | (rw [if_pos (by decide +kernel)]; kernel_rfl) | (rw [if_neg (by decide +kernel)]; exact ⟨rfl, rfl⟩))
    (fun os started H enc _ => lifted os started H enc)
theorem proved : Rows.ShardBackSaid := over
#print axioms proved
end Go.Proofs.Ytcacldakplomnaa.shardBack
