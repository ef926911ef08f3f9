import Derived.Test.YtkpblfioibiidaaRows
import Derived.WalkKit
import Derived.ProofKit
import Derived.OpenShut
import Derived.ShutString
import Derived.ChangeOld
import Derived.Below
import Derived.WideKeyPair
import Derived.SizedLaws
import Derived.Test.YtkpblfioibiidaaSp2
namespace Go.Proofs.Ytkpblfioibiidaa.matrixReckons
open Go.ChangeShapes Go.WideShapes Go.ChangeAt Go.RowKit
theorem own : ownKnob Try.prog.godebug = none := by kernel_rfl
theorem laidOut : laidOutB Try.prog = true := by kernel_rfl
theorem walk {μ : Gx.BMap} {h : Gx.AHeap} {w : World} (S : Gx.Start w μ h) {r1 c1 r2 c2 : Int} {s1 s2 rs : Gx.Slc} {xs ys rows : List Int} (R1 : Gx.Row Gx.encI h s1 xs) (R2 : Gx.Row Gx.encI h s2 ys) (R3 : Gx.Row Gx.encI h rs rows) (hr47 : 8 * rows.length ≤ 140737488355328)
    (l1 : ∀ a, s1.a = some a → a.block < h.next) (l2 : ∀ a, s2.a = some a → a.block < h.next) (l3 : ∀ a, rs.a = some a → a.block < h.next) {v0 v1 v2 : Value}
    (V0 : Gx.VR μ (.agg #[.int .i64 r1, .int .i64 c1, .slice s1.a s1.len s1.cap]) v0) (V1 : Gx.VR μ (.agg #[.int .i64 r2, .int .i64 c2, .slice s2.a s2.len s2.cap]) v1) (V2 : Gx.VR μ (.slice rs.a rs.len rs.cap) v2) :
    Calls Try.prog 12 #[v0, v1, v2] w fun e w' => e = .returned (.bool true) ∧ Below w.heap.size w w' := by
  obtain ⟨k, hk, hk1⟩ : ∃ k, 200000 ≤ k ∧ rows.length < k := ⟨200000 + rows.length, by omega, by omega⟩
  obtain ⟨h', hp⟩ := Gy.reckons_true hk (r1 := r1) (c1 := c1) (r2 := r2) (c2 := c2) R1 R2 R3 hr47 hk1 l1 l2 l3
  have hrun : (Gy.e_law04_MatrixReckons k (Gy.DD k)).run Bool [.agg #[.int .i64 r1, .int .i64 c1, .slice s1.a s1.len s1.cap], .agg #[.int .i64 r2, .int .i64 c2, .slice s2.a s2.len s2.cap], .slice rs.a rs.len rs.cap] h (fun v _ => match v with | .bool b => some b | _ => none) = some true := by
    have e : (Gy.e_law04_MatrixReckons k (Gy.DD k)).run Bool [.agg #[.int .i64 r1, .int .i64 c1, .slice s1.a s1.len s1.cap], .agg #[.int .i64 r2, .int .i64 c2, .slice s2.a s2.len s2.cap], .slice rs.a rs.len rs.cap] h (fun v _ => match v with | .bool b => some b | _ => none)
      = (Gy.law04_MatrixReckons k (Gy.DD k) (r1, c1, s1) (r2, c2, s2) rs h).bind fun r => some r.1 := by kernel_rfl
    rw [e, hp]
    rfl
  exact Gx.law_calls (Gy.ok_law04_MatrixReckons (Gy.DD_sound k) k) rfl Try.func12 rfl rfl hrun S.sim S.z (.cons V0 (.cons V1 (.cons V2 (.nil _)))) S.ro
set_option maxRecDepth 100000 in
theorem lifted (os : Os) (started : os.Started) (H : Type) (enc : TypeId × Value → H) :
    ReturnsInHanded {} Try.checked os 12 .any (Rows.matrixReckonsSpec.pre6 enc Try.prog Try.f12 Rows.matrixReckonsRow.domain false) (Rows.matrixReckonsSpec.post enc Try.prog Try.f12 false true false false) := by
  refine returnsInHanded_of_change_sized (C := Try.checked) own started (by kernel_rfl) Try.func12
    (ChangeSpec.witness6 (enc := enc) (C := Try.checked) false ⟨#[], #[.agg #[.int .i64 0, .int .i64 0, .slice none 0 0], .agg #[.int .i64 0, .int .i64 0, .slice none 0 0], .slice none 0 0], []⟩ 8 (by kernel_rfl) (by kernel_rfl) (by kernel_rfl) (by kernel_rfl)) ?_
  intro W base args ds gs before hval0 hW hcnd hsize _
  have hval : ∀ (j : Nat) t v, Try.f12.params[j]? = some t → args[j]? = some v → Value.okWide Try.prog W .any base t v := hval0
  have hW' := hW
  obtain ⟨p, q, hA0, hV, rfl, hfz, hnd⟩ := hW
  have hA : DataW.TrodAll enc Try.prog W 0 (fun _ => true) true Try.f12.params.toList args.toList ds p := hA0
  have hA1 := hA
  rw [Try.params12] at hA hval hA1
  obtain ⟨v0, vs0, d0, ds0, p0, q0, hargs, rfl, rfl, h0, r0⟩ := trodAll_cons hA
  obtain ⟨v1, vs1, d1, ds1, p1, q1, rfl, rfl, rfl, h1, r1⟩ := trodAll_cons r0
  obtain ⟨v2, vs2, d2, ds2, p2, q2, rfl, rfl, rfl, h2, r2⟩ := trodAll_cons r1
  obtain ⟨rfl, rfl, rfl⟩ := trodAll_nil r2
  obtain rfl : args = #[v0, v1, v2] := by cases args; simp_all
  obtain ⟨rfl, rfl⟩ := trodVars_none hV
  obtain ⟨μ1, g1, s0, ra, ca, xs, m1, V0, R0, b0⟩ := (Gx.Start.zero W).mat Try.underlying51 (by kernel_rfl) rfl rfl rfl rfl rfl rfl Try.underlying3 Try.underlying3 Try.underlying37 Try.underlying3 (by kernel_rfl) (by kernel_rfl) (by kernel_rfl) (by kernel_rfl) (hval 0 51 v0 rfl rfl) h0
  obtain ⟨μ2, g2, s1, rb, cb, ys, m2, V1, R1, b1⟩ := m1.st.mat Try.underlying51 (by kernel_rfl) rfl rfl rfl rfl rfl rfl Try.underlying3 Try.underlying3 Try.underlying37 Try.underlying3 (by kernel_rfl) (by kernel_rfl) (by kernel_rfl) (by kernel_rfl) (hval 1 51 v1 rfl rfl) h1
  obtain ⟨μ3, g3, s2, rows, m3, V2, R2, b2, z2⟩ := m2.st.ints Try.underlying37 Try.underlying3 (by kernel_rfl) (hval 2 37 v2 rfl rfl) h2
  have rbl := reachBytes_lt
  have hr47 : 8 * rows.length ≤ 140737488355328 := by
    rcases z2 with rfl | ⟨sp, rfl⟩
    · simp
    · have := sized_slice hsize (j := 2) (t := 37) (e := 3) rfl rfl Try.underlying37
      rw [Gx.lits_length, show Try.checked.prog.bytesOf 3 = 8 from by kernel_rfl] at this
      omega
  clear hA0 hval0
  have k23 := m2.kp.trans m3.kp
  refine (walk m3.st (R0.keeps k23) (R1.keeps m3.kp) R2 hr47 (fun a ha => Nat.lt_of_lt_of_le (b0 a ha).1 k23.nx) (fun a ha => Nat.lt_of_lt_of_le (b1 a ha).1 m3.kp.nx) (fun a ha => (b2 a ha).1) (V0.mono (m2.le.trans m3.le)) (V1.mono m3.le) V2).mono fun e W' ⟨he, bel⟩ => ?_
  subst he
  exact ⟨_, rfl, _, _, _, [], _, [], hW', trodAll_mk1 (shut_bool Try.underlying4 _), Gx.trodAll_after laidOut bel (fun t ht => by
    have : t = 51 ∨ t = 37 := by simpa using ht
    rcases this with rfl | rfl <;> exact ⟨by kernel_rfl, of_decide_eq_true (by kernel_rfl)⟩) hA1, rfl, bel.frame _, fun h => by cases h⟩
theorem over : Rows.matrixReckonsRow.holds Try.pinned (OpenSpec.ofChange Rows.matrixReckonsSpec) :=
  OpenClaim.holds_of_wide 12 Try.f12 rfl rfl rfl rfl rfl rfl rfl ⟨rfl, rfl, rfl, rfl, rfl⟩ rfl rfl rfl rfl rfl (by kernel_rfl) Try.func12 (by kernel_rfl)
    (of_decide_eq_true (by kernel_rfl)) (by unfold Func.isWrapper; first | (rw [if_pos (by decide +kernel)]; kernel_rfl) | (rw [if_neg (by decide +kernel)]; exact ⟨rfl, rfl⟩))
    (fun os started H enc _ => lifted os started H enc)
theorem proved : Rows.MatrixReckonsSaid := over
#print axioms proved
end Go.Proofs.Ytkpblfioibiidaa.matrixReckons
