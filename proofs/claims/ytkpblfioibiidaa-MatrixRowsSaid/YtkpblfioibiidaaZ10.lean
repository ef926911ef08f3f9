import Derived.Test.YtkpblfioibiidaaRows
import Derived.WalkKit
import Derived.ProofKit
import Derived.OpenShut
import Derived.ShutString
import Derived.ChangeOld
import Derived.Below
import Derived.SizedLaws
import Derived.Test.YtkpblfioibiidaaSp2
namespace Go.Proofs.Ytkpblfioibiidaa.matrixRows
open Go.ChangeShapes Go.WideShapes Go.ChangeAt Go.RowKit
theorem own : ownKnob Try.prog.godebug = none := by kernel_rfl
theorem laidOut : laidOutB Try.prog = true := by kernel_rfl
theorem walk {μ : Gx.BMap} {h : Gx.AHeap} {w : World} (S : Gx.Start w μ h) (a0 a1 : Int) {l : Gx.Slc} {ls : List Int} (Rl : Gx.Row Gx.encI h l ls)
    (ll : ∀ a, l.a = some a → a.block < h.next) {v2 : Value} (V2 : Gx.VR μ (.slice l.a l.len l.cap) v2) :
    Calls Try.prog 11 #[.int .i64 a0, .int .i64 a1, v2] w fun e w' => e = .returned (.bool true) ∧ Below w.heap.size w w' := by
  obtain ⟨k, hk⟩ : ∃ k, 200000 ≤ k := ⟨200000, Nat.le_refl _⟩
  obtain ⟨h', hp⟩ := Gy.rows_true hk a0 a1 Rl ll
  have hrun : (Gy.e_law04_MatrixRows k (Gy.DD k)).run Bool [.int .i64 a0, .int .i64 a1, .slice l.a l.len l.cap] h (fun v _ => match v with | .bool b => some b | _ => none) = some true := by
    have e : (Gy.e_law04_MatrixRows k (Gy.DD k)).run Bool [.int .i64 a0, .int .i64 a1, .slice l.a l.len l.cap] h (fun v _ => match v with | .bool b => some b | _ => none)
      = (Gy.law04_MatrixRows k (Gy.DD k) a0 a1 l h).bind fun r => some r.1 := by kernel_rfl
    rw [e, hp]
    rfl
  exact Gx.law_calls (Gy.ok_law04_MatrixRows (Gy.DD_sound k) k) rfl Try.func11 rfl rfl hrun S.sim S.z (.cons (.int _ _) (.cons (.int _ _) (.cons V2 (.nil _)))) S.ro
set_option maxRecDepth 100000 in
theorem lifted (os : Os) (started : os.Started) (H : Type) (enc : TypeId × Value → H) :
    ReturnsInHanded {} Try.checked os 11 .any (Rows.matrixRowsSpec.pre6 enc Try.prog Try.f11 Rows.matrixRowsRow.domain false) (Rows.matrixRowsSpec.post enc Try.prog Try.f11 false true false false) := by
  refine returnsInHanded_of_change_sized (C := Try.checked) own started (by kernel_rfl) Try.func11
    (ChangeSpec.witness6 (enc := enc) (C := Try.checked) false ⟨#[], #[.int .i64 0, .int .i64 0, .slice none 0 0], []⟩ 8 (by kernel_rfl) (by kernel_rfl) (by kernel_rfl) (by kernel_rfl)) ?_
  intro W base args ds gs before hval0 hW hcnd hsize _
  have hval : ∀ (j : Nat) t v, Try.f11.params[j]? = some t → args[j]? = some v → Value.okWide Try.prog W .any base t v := hval0
  have hW' := hW
  obtain ⟨p, q, hA0, hV, rfl, hfz, hnd⟩ := hW
  have hA : DataW.TrodAll enc Try.prog W 0 (fun _ => true) true Try.f11.params.toList args.toList ds p := hA0
  have hA1 := hA
  rw [Try.params11] at hA hval hA1
  obtain ⟨v0, vs0, d0, ds0, p0, q0, hargs, rfl, rfl, h0, r0⟩ := trodAll_cons hA
  obtain ⟨v1, vs1, d1, ds1, p1, q1, rfl, rfl, rfl, h1, r1⟩ := trodAll_cons r0
  obtain ⟨v2, vs2, d2, ds2, p2, q2, rfl, rfl, rfl, h2, r2⟩ := trodAll_cons r1
  obtain ⟨rfl, rfl, rfl⟩ := trodAll_nil r2
  obtain rfl : args = #[v0, v1, v2] := by cases args; simp_all
  obtain ⟨rfl, rfl⟩ := trodVars_none hV
  obtain ⟨μ1, g1, s1, ls, m1, V1, R1, b1, _⟩ := (Gx.Start.zero W).ints Try.underlying37 Try.underlying3 (by kernel_rfl) (hval 2 37 v2 rfl rfl) h2
  obtain ⟨a0, rfl, rfl, rfl, w0⟩ := open_int Try.underlying3 (hval 0 3 v0 rfl rfl) h0
  obtain ⟨a1, rfl, rfl, rfl, w1⟩ := open_int Try.underlying3 (hval 1 3 v1 rfl rfl) h1
  clear hA0 hval0
  refine (walk m1.st a0 a1 R1 (fun a ha => (b1 a ha).1) V1).mono fun e W' ⟨he, bel⟩ => ?_
  subst he
  exact ⟨_, rfl, _, _, _, [], _, [], hW', trodAll_mk1 (shut_bool Try.underlying4 _), Gx.trodAll_after laidOut bel (fun t ht => by
    have : t = 3 ∨ t = 37 := by simpa using ht
    rcases this with rfl | rfl <;> exact ⟨by kernel_rfl, of_decide_eq_true (by kernel_rfl)⟩) hA1, rfl, bel.frame _, fun h => by cases h⟩
theorem over : Rows.matrixRowsRow.holds Try.pinned (OpenSpec.ofChange Rows.matrixRowsSpec) :=
  OpenClaim.holds_of_wide 11 Try.f11 rfl rfl rfl rfl rfl rfl rfl ⟨rfl, rfl, rfl, rfl, rfl⟩ rfl rfl rfl rfl rfl (by kernel_rfl) Try.func11 (by kernel_rfl)
    (of_decide_eq_true (by kernel_rfl)) (by unfold Func.isWrapper; first | (rw [if_pos (by decide +kernel)]; kernel_rfl) | (rw [if_neg (by decide +kernel)]; exact ⟨rfl, rfl⟩))
    (fun os started H enc _ => lifted os started H enc)
theorem proved : Rows.MatrixRowsSaid := over
#print axioms proved
end Go.Proofs.Ytkpblfioibiidaa.matrixRows
