import Derived.Test.YtkpblfioibiidaaRows
import Derived.WalkKit
import Derived.ProofKit
import Derived.OpenShut
import Derived.ShutString
import Derived.ChangeOld
import Derived.Below
import Derived.WideKeyPair
import Derived.SizedLaws
import Derived.Test.YtkpblfioibiidaaSp1
/-! The row of FieldTexts. -/
namespace Go.Proofs.Ytkpblfioibiidaa.fieldTexts
open Go.ChangeShapes Go.WideShapes Go.ChangeAt Go.RowKit

theorem own : ownKnob Try.prog.godebug = none := by kernel_rfl
theorem laidOut : laidOutB Try.prog = true := by kernel_rfl

theorem walk {μ : Gx.BMap} {h : Gx.AHeap} {w : World} (S : Gx.Start w μ h) {l c : Gx.Slc} {ls : List ByteArray} {cs : List Int} (Rl : Gx.Row Gx.encS h l ls) (Rc : Gx.Row Gx.encI h c cs) (hc47 : 8 * cs.length ≤ 140737488355328) (hl47 : ls.length ≤ 140737488355328)
    (hla : ∀ a, l.a = some a → a.block < h.next) (hca : ∀ a, c.a = some a → a.block < h.next) (x : Int) {v0 v1 : Value} (V0 : Gx.VR μ (.slice l.a l.len l.cap) v0) (V1 : Gx.VR μ (.slice c.a c.len c.cap) v1) :
    Calls Try.prog 6 #[v0, v1, .int .i64 x] w fun e w' => e = .returned (.bool true) ∧ Below w.heap.size w w' := by
  obtain ⟨k, hk, hk1, hk2⟩ : ∃ k, 1000 ≤ k ∧ ls.length < k ∧ cs.length < k := ⟨1000 + ls.length + cs.length, by omega, by omega, by omega⟩
  obtain ⟨h', hp⟩ := Gy.texts_true hk Rl Rc hk1 hk2 hc47 hl47 hla hca x
  have hrun : (Gy.e_law03_FieldTexts k (Gy.DD k)).run Bool [.slice l.a l.len l.cap, .slice c.a c.len c.cap, .int .i64 x] h (fun v _ => match v with | .bool b => some b | _ => none) = some true := by
    have e : (Gy.e_law03_FieldTexts k (Gy.DD k)).run Bool [.slice l.a l.len l.cap, .slice c.a c.len c.cap, .int .i64 x] h (fun v _ => match v with | .bool b => some b | _ => none)
      = (Gy.law03_FieldTexts k (Gy.DD k) l c x h).bind fun r => some r.1 := by kernel_rfl
    rw [e, hp]
    rfl
  exact Gx.law_calls (Gy.ok_law03_FieldTexts (Gy.DD_sound k) k) rfl Try.func6 rfl rfl hrun S.sim S.z (.cons V0 (.cons V1 (.cons (.int _ _) (.nil _)))) S.ro

set_option maxRecDepth 100000 in
theorem lifted (os : Os) (started : os.Started) (H : Type) (enc : TypeId × Value → H) :
    ReturnsInHanded {} Try.checked os 6 .any (Rows.fieldTextsSpec.pre6 enc Try.prog Try.f6 Rows.fieldTextsRow.domain false) (Rows.fieldTextsSpec.post enc Try.prog Try.f6 false true false false) := by
  refine returnsInHanded_of_change_sized (C := Try.checked) own started (by kernel_rfl) Try.func6
    (ChangeSpec.witness6 (enc := enc) (C := Try.checked) false ⟨#[], #[.slice none 0 0, .slice none 0 0, .int .i64 0], []⟩ 8 (by kernel_rfl) (by kernel_rfl) (by kernel_rfl) (by kernel_rfl)) ?_
  intro W base args ds gs before hval0 hW hcnd hsize _
  have hval : ∀ (j : Nat) t v, Try.f6.params[j]? = some t → args[j]? = some v → Value.okWide Try.prog W .any base t v := hval0
  have hW' := hW
  obtain ⟨p, q, hA0, hV, rfl, hfz, hnd⟩ := hW
  have hA : DataW.TrodAll enc Try.prog W 0 (fun _ => true) true Try.f6.params.toList args.toList ds p := hA0
  have hA1 := hA
  rw [Try.params6] at hA hval hA1
  obtain ⟨v0, vs0, d0, ds0, p0, q0, hargs, rfl, rfl, h0, r0⟩ := trodAll_cons hA
  obtain ⟨v1, vs1, d1, ds1, p1, q1, rfl, rfl, rfl, h1, r1⟩ := trodAll_cons r0
  obtain ⟨v2, vs2, d2, ds2, p2, q2, rfl, rfl, rfl, h2, r2⟩ := trodAll_cons r1
  obtain ⟨rfl, rfl, rfl⟩ := trodAll_nil r2
  obtain rfl : args = #[v0, v1, v2] := by cases args; simp_all
  obtain ⟨rfl, rfl⟩ := trodVars_none hV
  obtain ⟨μ1, g1, s0, ls, m1, V0, R0, b0, z0⟩ := (Gx.Start.zero W).texts Try.underlying36 Try.underlying9 (by kernel_rfl) (hval 0 36 v0 rfl rfl) h0
  obtain ⟨μ2, g2, s1, cs, m2, V1, R1, b1, z1⟩ := m1.st.ints Try.underlying37 Try.underlying3 (by kernel_rfl) (hval 1 37 v1 rfl rfl) h1
  obtain ⟨a2, rfl, rfl, rfl, w2⟩ := open_int Try.underlying3 (hval 2 3 v2 rfl rfl) h2
  have rb := reachBytes_lt
  have hl47 : ls.length ≤ 140737488355328 := by
    rcases z0 with rfl | ⟨sp, rfl⟩
    · simp
    · have := sized_slice hsize (j := 0) (t := 36) (e := 9) rfl rfl Try.underlying36
      rw [Gx.strs_length, show Try.checked.prog.bytesOf 9 = 16 from by kernel_rfl] at this
      omega
  have hc47 : 8 * cs.length ≤ 140737488355328 := by
    rcases z1 with rfl | ⟨sp, rfl⟩
    · simp
    · have := sized_slice hsize (j := 1) (t := 37) (e := 3) rfl rfl Try.underlying37
      rw [Gx.lits_length, show Try.checked.prog.bytesOf 3 = 8 from by kernel_rfl] at this
      omega
  clear hA0 hval0
  refine (walk m2.st (R0.keeps m2.kp) R1 hc47 hl47 (fun a ha => Nat.lt_of_lt_of_le (b0 a ha).1 m2.kp.nx) (fun a ha => (b1 a ha).1) a2 (V0.mono m2.le) V1).mono fun e W' ⟨he, bel⟩ => ?_
  subst he
  exact ⟨_, rfl, _, _, _, [], _, [], hW', trodAll_mk1 (shut_bool Try.underlying4 _), Gx.trodAll_after laidOut bel (fun t ht => by
    have : t = 36 ∨ t = 37 ∨ t = 3 := by simpa using ht
    rcases this with rfl | rfl | rfl <;> exact ⟨by kernel_rfl, of_decide_eq_true (by kernel_rfl)⟩) hA1, rfl, bel.frame _, fun h => by cases h⟩

theorem over : Rows.fieldTextsRow.holds Try.pinned (OpenSpec.ofChange Rows.fieldTextsSpec) :=
  OpenClaim.holds_of_wide 6 Try.f6 rfl rfl rfl rfl rfl rfl rfl ⟨rfl, rfl, rfl, rfl, rfl⟩ rfl rfl rfl rfl rfl (by kernel_rfl) Try.func6 (by kernel_rfl)
    (of_decide_eq_true (by kernel_rfl)) (by unfold Func.isWrapper; first | (rw [if_pos (by decide +kernel)]; kernel_rfl) | (rw [if_neg (by decide +kernel)]; exact ⟨rfl, rfl⟩))
    (fun os started H enc _ => lifted os started H enc)

/-- the statement -/
theorem proved : Rows.FieldTextsSaid := over
#print axioms proved
end Go.Proofs.Ytkpblfioibiidaa.fieldTexts
