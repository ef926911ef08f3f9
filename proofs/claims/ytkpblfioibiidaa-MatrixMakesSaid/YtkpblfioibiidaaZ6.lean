import Derived.Test.YtkpblfioibiidaaRows
import Derived.WalkKit
import Derived.ProofKit
import Derived.Test.YtkpblfioibiidaaSp1
/-! The row of MatrixMakes. -/
namespace Go.Proofs.Ytkpblfioibiidaa.matrixMakes
open Go.ChangeShapes Go.WideShapes Go.ChangeAt Go.RowKit

theorem own : ownKnob Try.prog.godebug = none := by kernel_rfl
theorem laidOut : laidOutB Try.prog = true := by kernel_rfl

theorem walk (a0 a1 : Int) (w : World) :
    Calls Try.prog 8 #[.int .i64 a0, .int .i64 a1] w fun e w' => e = .returned (.bool true) ∧ Below w.heap.size w w' := by
  obtain ⟨k, hk⟩ : ∃ k, 200000 ≤ k := ⟨200000, Nat.le_refl _⟩
  obtain ⟨h', hp⟩ := Gy.makes_true hk a0 a1
  have hrun : (Gy.e_law04_MatrixMakes k (Gy.DD k)).run Bool [.int .i64 a0, .int .i64 a1] Gx.h0 (fun v _ => match v with | .bool b => some b | _ => none) = some true := by
    have e : (Gy.e_law04_MatrixMakes k (Gy.DD k)).run Bool [.int .i64 a0, .int .i64 a1] Gx.h0 (fun v _ => match v with | .bool b => some b | _ => none)
      = (Gy.law04_MatrixMakes k (Gy.DD k) a0 a1 Gx.h0).bind fun r => some r.1 := by kernel_rfl
    rw [e, hp]
    rfl
  refine Gx.law_calls (Gy.ok_law04_MatrixMakes (Gy.DD_sound k) k) rfl Try.func8 rfl rfl hrun (Gx.sim0 w) (fun _ _ => rfl) ?_ (fun b B hb => by cases hb)
  exact .cons (.int _ _) (.cons (.int _ _) (.nil _))

set_option maxRecDepth 100000 in
theorem lifted (os : Os) (started : os.Started) (H : Type) (enc : TypeId × Value → H) :
    ReturnsInHanded {} Try.checked os 8 .any (Rows.matrixMakesSpec.pre6 enc Try.prog Try.f8 Rows.matrixMakesRow.domain false) (Rows.matrixMakesSpec.post enc Try.prog Try.f8 false true false false) := by
  refine returnsInHanded_of_change (C := Try.checked) own started (by kernel_rfl) Try.func8
    (ChangeSpec.witness6 (enc := enc) (C := Try.checked) false ⟨#[], #[.int .i64 0, .int .i64 0], []⟩ 8 (by kernel_rfl) (by kernel_rfl) (by kernel_rfl) (by kernel_rfl)) ?_
  intro W base args ds gs before hval0 hW hcnd _
  have hval : ∀ (j : Nat) t v, Try.f8.params[j]? = some t → args[j]? = some v → Value.okWide Try.prog W .any base t v := hval0
  have hW' := hW
  obtain ⟨p, q, hA0, hV, rfl, hfz, hnd⟩ := hW
  have hA : DataW.TrodAll enc Try.prog W 0 (fun _ => true) true Try.f8.params.toList args.toList ds p := hA0
  have hA1 := hA
  rw [Try.params8] at hA hval hA1
  obtain ⟨v0, vs0, d0, ds0, p0, q0, hargs, rfl, rfl, h0, r0⟩ := trodAll_cons hA
  obtain ⟨v1, vs1, d1, ds1, p1, q1, rfl, rfl, rfl, h1, r1⟩ := trodAll_cons r0
  obtain ⟨rfl, rfl, rfl⟩ := trodAll_nil r1
  obtain rfl : args = #[v0, v1] := by cases args; simp_all
  obtain ⟨rfl, rfl⟩ := trodVars_none hV
  obtain ⟨a0, rfl, rfl, rfl, w0⟩ := open_int Try.underlying3 (hval 0 3 v0 rfl rfl) h0
  obtain ⟨a1, rfl, rfl, rfl, w1⟩ := open_int Try.underlying3 (hval 1 3 v1 rfl rfl) h1
  clear hA0 hval0
  refine (walk a0 a1 W).mono fun e W' ⟨he, bel⟩ => ?_
  subst he
  exact ⟨_, rfl, _, _, _, [], _, [], hW', trodAll_mk1 (shut_bool Try.underlying4 _), Gx.trodAll_after laidOut bel (fun t ht => by
    obtain rfl : t = 3 := by simpa using ht
    exact ⟨by kernel_rfl, of_decide_eq_true (by kernel_rfl)⟩) hA1, rfl, bel.frame _, fun h => by cases h⟩

theorem over : Rows.matrixMakesRow.holds Try.pinned (OpenSpec.ofChange Rows.matrixMakesSpec) :=
  OpenClaim.holds_of_wide 8 Try.f8 rfl rfl rfl rfl rfl rfl rfl ⟨rfl, rfl, rfl, rfl, rfl⟩ rfl rfl rfl rfl rfl (by kernel_rfl) Try.func8 (by kernel_rfl)
    (of_decide_eq_true (by kernel_rfl)) (by unfold Func.isWrapper; first | (rw [if_pos (by decide +kernel)]; kernel_rfl) | (rw [if_neg (by decide +kernel)]; exact ⟨rfl, rfl⟩))
    (fun os started H enc _ => lifted os started H enc)

/-- the statement -/
theorem proved : Rows.MatrixMakesSaid := over
#print axioms proved
end Go.Proofs.Ytkpblfioibiidaa.matrixMakes
