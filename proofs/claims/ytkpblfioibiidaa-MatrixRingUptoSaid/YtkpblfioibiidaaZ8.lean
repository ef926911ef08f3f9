import Derived.Test.YtkpblfioibiidaaRows
import Derived.WalkKit
import Derived.ProofKit
import Derived.OpenShut
import Derived.ShutString
import Derived.ChangeOld
import Derived.Below
import Derived.JoinedCond
import Derived.Test.YtkpblfioibiidaaSp2
namespace Go.Proofs.Ytkpblfioibiidaa.matrixRingUpto
open Go.ChangeShapes Go.WideShapes Go.ChangeAt Go.RowKit
theorem own : ownKnob Try.prog.godebug = none := by kernel_rfl
theorem laidOut : laidOutB Try.prog = true := by kernel_rfl
theorem walk {μ : Gx.BMap} {h : Gx.AHeap} {w : World} (S : Gx.Start w μ h) {z0 z1 z2 : Int} {l kv : Gx.Slc} {ls ks : List Int} (Rl : Gx.Row Gx.encI h l ls) (Rk : Gx.Row Gx.encI h kv ks) (hlen : 16 * (ks.length + ls.length) ≤ 281474976710656)
    (ll : ∀ a, l.a = some a → a.block < h.next) (lk : ∀ a, kv.a = some a → a.block < h.next) {v0 v1 v2 : Value} (V0 : Gx.VR μ (.agg #[.int .i64 z0, .int .i64 z1, .int .i64 z2]) v0) (V1 : Gx.VR μ (.slice l.a l.len l.cap) v1) (V2 : Gx.VR μ (.slice kv.a kv.len kv.cap) v2) :
    Calls Try.prog 9 #[v0, v1, v2] w fun e w' => e = .returned (.bool true) ∧ Below w.heap.size w w' := by
  obtain ⟨k, hk⟩ : ∃ k, 200000 ≤ k := ⟨200000, Nat.le_refl _⟩
  obtain ⟨h', hp⟩ := Gy.ring_true hk (z0 := z0) (z1 := z1) (z2 := z2) Rl Rk hlen ll lk
  have hrun : (Gy.e_law04_MatrixRing k (Gy.DD k)).run Bool [.agg #[.int .i64 z0, .int .i64 z1, .int .i64 z2], .slice l.a l.len l.cap, .slice kv.a kv.len kv.cap] h (fun v _ => match v with | .bool b => some b | _ => none) = some true := by
    have e : (Gy.e_law04_MatrixRing k (Gy.DD k)).run Bool [.agg #[.int .i64 z0, .int .i64 z1, .int .i64 z2], .slice l.a l.len l.cap, .slice kv.a kv.len kv.cap] h (fun v _ => match v with | .bool b => some b | _ => none)
      = (Gy.law04_MatrixRing k (Gy.DD k) (z0, z1, z2) l kv h).bind fun r => some r.1 := by kernel_rfl
    rw [e, hp]
    rfl
  exact Gx.law_calls (Gy.ok_law04_MatrixRing (Gy.DD_sound k) k) rfl Try.func9 rfl rfl hrun S.sim S.z (.cons V0 (.cons V1 (.cons V2 (.nil _)))) S.ro
theorem one_le {H : Type} (d : DataW H) : 1 ≤ Rows.uptoBulk d := by
  cases d with
  | lit l => cases l <;> simp [Rows.uptoBulk]
  | nil => simp [Rows.uptoBulk]
  | ptr d => simp [Rows.uptoBulk]
  | slice elems spare => simp [Rows.uptoBulk]
  | agg parts => simp [Rows.uptoBulk]
  | iface t d => simp [Rows.uptoBulk]
  | map entries => simp [Rows.uptoBulk]
  | held h => simp [Rows.uptoBulk]
theorem length_le {H : Type} (l : List (DataW H)) : l.length ≤ Rows.uptoBulkAll l := by
  induction l with
  | nil => simp [Rows.uptoBulkAll]
  | cons x r ih => have := one_le x; simp only [Rows.uptoBulkAll, List.length_cons]; omega
theorem ints_le {H : Type} {ls : List Int} {d : DataW H} (h : ls = [] ∨ ∃ sp, d = .slice (lits .i64 ls) sp) : ls.length ≤ Rows.uptoBulk d := by
  rcases h with rfl | ⟨sp, rfl⟩
  · simp
  · have := length_le (lits (H := H) .i64 ls)
    rw [Gx.lits_length] at this
    simp only [Rows.uptoBulk]
    omega
set_option maxRecDepth 100000 in
theorem contract (H : Type) (enc : TypeId × Value → H) (W : World) (base : Nat) (args : Array Value) (ds gs : List (DataW H)) (before : List MemPlace)
    (hval0 : ∀ (j : Nat) t v, Try.f9.params[j]? = some t → args[j]? = some v → Value.okWide Try.prog W .any base t v)
    (hW : DataW.Whole enc Try.prog Try.f9.params.toList Rows.matrixRingSpec.vars false W args.toList ds gs before) (hk : Rows.uptoSmall H (ds ++ gs) = true) :
    Calls Try.prog 9 args W fun e W' => ∃ v, e = .returned v ∧ Rows.matrixRingSpec.post enc Try.prog Try.f9 false true false false W args v W' := by
  have hval : ∀ (j : Nat) t v, Try.f9.params[j]? = some t → args[j]? = some v → Value.okWide Try.prog W .any base t v := hval0
  have hW' := hW
  obtain ⟨p, q, hA0, hV, rfl, hfz, hnd⟩ := hW
  have hA : DataW.TrodAll enc Try.prog W 0 (fun _ => true) true Try.f9.params.toList args.toList ds p := hA0
  have hA1 := hA
  rw [Try.params9] at hA hval hA1
  obtain ⟨v0, vs0, d0, ds0, p0, q0, hargs, rfl, rfl, h0, r0⟩ := trodAll_cons hA
  obtain ⟨v1, vs1, d1, ds1, p1, q1, rfl, rfl, rfl, h1, r1⟩ := trodAll_cons r0
  obtain ⟨v2, vs2, d2, ds2, p2, q2, rfl, rfl, rfl, h2, r2⟩ := trodAll_cons r1
  obtain ⟨rfl, rfl, rfl⟩ := trodAll_nil r2
  obtain rfl : args = #[v0, v1, v2] := by cases args; simp_all
  obtain ⟨rfl, rfl⟩ := trodVars_none hV
  obtain ⟨μ1, g1, s1, ls, m1, V1, R1, b1, z1⟩ := (Gx.Start.zero W).ints Try.underlying37 Try.underlying3 (by kernel_rfl) (hval 1 37 v1 rfl rfl) h1
  obtain ⟨μ2, g2, s2, ks, m2, V2, R2, b2, z2⟩ := m1.st.ints Try.underlying37 Try.underlying3 (by kernel_rfl) (hval 2 37 v2 rfl rfl) h2
  obtain ⟨a, b, c, _, V0⟩ := Gx.open_tri (μ := μ2) Try.underlying61 Try.underlying3 (by kernel_rfl) (by kernel_rfl) (hval 0 61 v0 rfl rfl) h0
  have hlen : 16 * (ks.length + ls.length) ≤ 281474976710656 := by
    have h : Rows.uptoBulkAll ([d0, d1, d2] ++ []) ≤ 1048576 := of_decide_eq_true hk
    simp only [List.append_nil, Rows.uptoBulkAll] at h
    have := ints_le z1
    have := ints_le z2
    omega
  clear hA0 hval0
  refine (walk m2.st (R1.keeps m2.kp) R2 hlen (fun a ha => Nat.lt_of_lt_of_le (b1 a ha).1 m2.kp.nx) (fun a ha => (b2 a ha).1) V0 (V1.mono m2.le) V2).mono fun e W' ⟨he, bel⟩ => ?_
  subst he
  exact ⟨_, rfl, _, _, _, [], _, [], hW', trodAll_mk1 (shut_bool Try.underlying4 _), Gx.trodAll_after laidOut bel (fun t ht => by
    have : t = 61 ∨ t = 37 := by simpa using ht
    rcases this with rfl | rfl <;> exact ⟨by kernel_rfl, of_decide_eq_true (by kernel_rfl)⟩) hA1, rfl, bel.frame _, fun h => by cases h⟩
set_option maxRecDepth 100000 in
theorem lifted (os : Os) (started : os.Started) (H : Type) (enc : TypeId × Value → H) (F : Stop.Interp) :
    ReturnsInHanded {} Try.checked os 9 .any ((Rows.OpenSpec.upto Rows.matrixRingSpec).pre6 enc Try.prog Try.f9 Rows.matrixRingUptoRow.domain false) (((Rows.OpenSpec.upto Rows.matrixRingSpec).at F).post enc Try.prog Try.f9 false true false false) := by
  refine returnsInHanded_of_cond (C := Try.checked) (s := Rows.OpenSpec.upto Rows.matrixRingSpec) (k := Rows.uptoSmall) rfl own started (by kernel_rfl) Try.func9
    (OpenSpec.witness (enc := enc) (C := Try.checked) (s := Rows.OpenSpec.upto Rows.matrixRingSpec) (k := Rows.uptoSmall) rfl false ⟨#[], #[.agg #[.int .i64 0, .int .i64 0, .int .i64 0], .slice none 0 0, .slice none 0 0], []⟩ 8 (by kernel_rfl) (by kernel_rfl) (by kernel_rfl)
      (x := ([.agg [.lit (.int .i64 0), .lit (.int .i64 0), .lit (.int .i64 0)], .nil, .nil], [], [])) (by kernel_rfl) rfl (by kernel_rfl)) ?_
  intro W base args ds gs before hval hW _ hk _
  exact contract H enc W base args ds gs before hval hW hk
theorem proved : Rows.MatrixRingUptoSaid :=
  OpenClaim.holds_of_cond 9 Try.f9 rfl rfl rfl rfl rfl rfl rfl ⟨rfl, rfl, rfl, rfl, rfl⟩ rfl rfl rfl rfl rfl (by kernel_rfl) Try.func9 (by kernel_rfl)
    (of_decide_eq_true (by kernel_rfl)) (by unfold Func.isWrapper; first | (rw [if_pos (by decide +kernel)]; kernel_rfl) | (rw [if_neg (by decide +kernel)]; exact ⟨rfl, rfl⟩))
    (fun os started H enc _ F => lifted os started H enc F)
#print axioms proved
end Go.Proofs.Ytkpblfioibiidaa.matrixRingUpto
