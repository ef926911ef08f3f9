import Derived.Test.YtkpblfioibiidaaRows
import Derived.WalkKit
import Derived.ProofKit
import Derived.Test.YtkpblfioibiidaaSp1
/-! The row of FieldMixes. -/
namespace Go.Proofs.Ytkpblfioibiidaa.fieldMixes
open Go.ChangeShapes Go.WideShapes Go.ChangeAt Go.RowKit

theorem own : ownKnob Try.prog.godebug = none := by kernel_rfl
theorem laidOut : laidOutB Try.prog = true := by kernel_rfl

theorem walk {μ : Gx.BMap} {h : Gx.AHeap} {w : World} (S : Gx.Start w μ h) {a b c : Gx.Slc} {la lb : List ByteArray} {lc : List Int} (Ra : Gx.Row Gx.encS h a la) (Rb : Gx.Row Gx.encS h b lb) (Rc : Gx.Row Gx.encI h c lc)
    (ha : ∀ z, a.a = some z → z.block < h.next) (hb : ∀ z, b.a = some z → z.block < h.next) (hc : ∀ z, c.a = some z → z.block < h.next) (x : Int) {v0 v1 v2 : Value} (V0 : Gx.VR μ (.slice a.a a.len a.cap) v0) (V1 : Gx.VR μ (.slice b.a b.len b.cap) v1) (V2 : Gx.VR μ (.slice c.a c.len c.cap) v2) :
    Calls Try.prog 7 #[.agg #[v0, v1], v2, .int .i64 x] w fun e w' => e = .returned (.bool true) ∧ Below w.heap.size w w' := by
  obtain ⟨k, hk⟩ : ∃ k, 1000 ≤ k := ⟨1000, by omega⟩
  obtain ⟨h', hp⟩ := Gy.mixes_true hk Ra Rb Rc ha hb hc x
  have hrun : (Gy.e_law03_FieldMixes k (Gy.DD k)).run Bool [.agg ⟨[.slice a.a a.len a.cap, .slice b.a b.len b.cap]⟩, .slice c.a c.len c.cap, .int .i64 x] h (fun v _ => match v with | .bool b => some b | _ => none) = some true := by
    have e : (Gy.e_law03_FieldMixes k (Gy.DD k)).run Bool [.agg ⟨[.slice a.a a.len a.cap, .slice b.a b.len b.cap]⟩, .slice c.a c.len c.cap, .int .i64 x] h (fun v _ => match v with | .bool b => some b | _ => none)
      = (Gy.law03_FieldMixes k (Gy.DD k) (a, b) c x h).bind fun r => some r.1 := by kernel_rfl
    rw [e, hp]
    rfl
  exact Gx.law_calls (Gy.ok_law03_FieldMixes (Gy.DD_sound k) k) rfl Try.func7 rfl rfl hrun S.sim S.z (.cons (.agg_list (.cons V0 (.cons V1 (.nil _)))) (.cons V2 (.cons (.int _ _) (.nil _)))) S.ro

set_option maxRecDepth 100000 in
theorem lifted (os : Os) (started : os.Started) (H : Type) (enc : TypeId × Value → H) :
    ReturnsInHanded {} Try.checked os 7 .any (Rows.fieldMixesSpec.pre6 enc Try.prog Try.f7 Rows.fieldMixesRow.domain false) (Rows.fieldMixesSpec.post enc Try.prog Try.f7 false true false false) := by
  refine returnsInHanded_of_change (C := Try.checked) own started (by kernel_rfl) Try.func7
    (ChangeSpec.witness6 (enc := enc) (C := Try.checked) false ⟨#[], #[.agg #[.slice none 0 0, .slice none 0 0], .slice none 0 0, .int .i64 0], []⟩ 8 (by kernel_rfl) (by kernel_rfl) (by kernel_rfl) (by kernel_rfl)) ?_
  intro W base args ds gs before hval0 hW hcnd _
  have hval : ∀ (j : Nat) t v, Try.f7.params[j]? = some t → args[j]? = some v → Value.okWide Try.prog W .any base t v := hval0
  have hW' := hW
  obtain ⟨p, q, hA0, hV, rfl, hfz, hnd⟩ := hW
  have hA : DataW.TrodAll enc Try.prog W 0 (fun _ => true) true Try.f7.params.toList args.toList ds p := hA0
  have hA1 := hA
  rw [Try.params7] at hA hval hA1
  obtain ⟨v0, vs0, d0, ds0, p0, q0, hargs, rfl, rfl, h0, r0⟩ := trodAll_cons hA
  obtain ⟨v1, vs1, d1, ds1, p1, q1, rfl, rfl, rfl, h1, r1⟩ := trodAll_cons r0
  obtain ⟨v2, vs2, d2, ds2, p2, q2, rfl, rfl, rfl, h2, r2⟩ := trodAll_cons r1
  obtain ⟨rfl, rfl, rfl⟩ := trodAll_nil r2
  obtain rfl : args = #[v0, v1, v2] := by cases args; simp_all
  obtain ⟨rfl, rfl⟩ := trodVars_none hV
  obtain ⟨c0, c1, fl, y0, y1, rfl, t0, t1⟩ := Gx.open_two Try.underlying46 (by kernel_rfl) (by kernel_rfl) (hval 0 46 v0 rfl rfl) h0
  obtain ⟨μ1, g1, s0, la, m1, V0, R0, b0, z0⟩ := (Gx.Start.zero W).textsT Try.underlying36 Try.underlying9 (by kernel_rfl) t0
  obtain ⟨μ2, g2, s1, lb, m2, V1, R1, b1, z1⟩ := m1.st.textsT Try.underlying36 Try.underlying9 (by kernel_rfl) t1
  obtain ⟨μ3, g3, s2, lc, m3, V2, R2, b2, z2⟩ := m2.st.ints Try.underlying37 Try.underlying3 (by kernel_rfl) (hval 1 37 v1 rfl rfl) h1
  obtain ⟨a2, rfl, rfl, rfl, w2⟩ := open_int Try.underlying3 (hval 2 3 v2 rfl rfl) h2
  clear hA0 hval0
  have k23 := m2.kp.trans m3.kp
  refine (walk m3.st (R0.keeps k23) (R1.keeps m3.kp) R2 (fun a ha => Nat.lt_of_lt_of_le (b0 a ha).1 k23.nx) (fun a ha => Nat.lt_of_lt_of_le (b1 a ha).1 m3.kp.nx) (fun a ha => (b2 a ha).1) a2 ((V0.mono m2.le).mono m3.le) (V1.mono m3.le) V2).mono fun e W' ⟨he, bel⟩ => ?_
  subst he
  exact ⟨_, rfl, _, _, _, [], _, [], hW', trodAll_mk1 (shut_bool Try.underlying4 _), Gx.trodAll_after laidOut bel (fun t ht => by
    have : t = 46 ∨ t = 37 ∨ t = 3 := by simpa using ht
    rcases this with rfl | rfl | rfl <;> exact ⟨by kernel_rfl, of_decide_eq_true (by kernel_rfl)⟩) hA1, rfl, bel.frame _, fun h => by cases h⟩

theorem over : Rows.fieldMixesRow.holds Try.pinned (OpenSpec.ofChange Rows.fieldMixesSpec) :=
  OpenClaim.holds_of_wide 7 Try.f7 rfl rfl rfl rfl rfl rfl rfl ⟨rfl, rfl, rfl, rfl, rfl⟩ rfl rfl rfl rfl rfl (by kernel_rfl) Try.func7 (by kernel_rfl)
    (of_decide_eq_true (by kernel_rfl)) (by unfold Func.isWrapper; first | (rw [if_pos (by decide +kernel)]; kernel_rfl) | (rw [if_neg (by decide +kernel)]; exact ⟨rfl, rfl⟩))
    (fun os started H enc _ => lifted os started H enc)

/-- the statement -/
theorem proved : Rows.FieldMixesSaid := over
#print axioms proved
end Go.Proofs.Ytkpblfioibiidaa.fieldMixes
