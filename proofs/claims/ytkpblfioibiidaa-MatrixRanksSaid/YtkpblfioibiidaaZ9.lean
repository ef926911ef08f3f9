import Derived.Test.YtkpblfioibiidaaRows
import Derived.WalkKit
import Derived.ProofKit
import Derived.OpenShut
import Derived.ShutString
import Derived.ChangeOld
import Derived.Below
import Derived.SizedLaws
import Derived.Test.YtkpblfioibiidaaSp2
namespace Go.Proofs.Ytkpblfioibiidaa.matrixRanks
open Go.ChangeShapes Go.WideShapes Go.ChangeAt Go.RowKit
theorem own : ownKnob Try.prog.godebug = none := by kernel_rfl
theorem laidOut : laidOutB Try.prog = true := by kernel_rfl
theorem walk {μ : Gx.BMap} {h : Gx.AHeap} {w : World} (S : Gx.Start w μ h) {z0 z1 b0 b1 : Int} {l : Gx.Slc} {ls : List Int} (Rl : Gx.Row Gx.encI h l ls) (hlen : ls.length < 4611686018427387904)
    (ll : ∀ a, l.a = some a → a.block < h.next) {v0 v1 v2 : Value} (V0 : Gx.VR μ (.agg #[.int .i64 z0, .int .i64 z1]) v0) (V1 : Gx.VR μ (.slice l.a l.len l.cap) v1) (V2 : Gx.VR μ (.agg #[.int .i64 b0, .int .i64 b1]) v2) :
    Calls Try.prog 10 #[v0, v1, v2] w fun e w' => e = .returned (.bool true) ∧ Below w.heap.size w w' := by
  obtain ⟨k, hk⟩ : ∃ k, 200000 ≤ k := ⟨200000, Nat.le_refl _⟩
  obtain ⟨h', hp⟩ := Gy.ranks_true hk (z0 := z0) (z1 := z1) (b0 := b0) (b1 := b1) Rl hlen ll
  have hrun : (Gy.e_law04_MatrixRanks k (Gy.DD k)).run Bool [.agg #[.int .i64 z0, .int .i64 z1], .slice l.a l.len l.cap, .agg #[.int .i64 b0, .int .i64 b1]] h (fun v _ => match v with | .bool b => some b | _ => none) = some true := by
    have e : (Gy.e_law04_MatrixRanks k (Gy.DD k)).run Bool [.agg #[.int .i64 z0, .int .i64 z1], .slice l.a l.len l.cap, .agg #[.int .i64 b0, .int .i64 b1]] h (fun v _ => match v with | .bool b => some b | _ => none)
      = (Gy.law04_MatrixRanks k (Gy.DD k) (z0, z1) l (b0, b1) h).bind fun r => some r.1 := by kernel_rfl
    rw [e, hp]
    rfl
  exact Gx.law_calls (Gy.ok_law04_MatrixRanks (Gy.DD_sound k) k) rfl Try.func10 rfl rfl hrun S.sim S.z (.cons V0 (.cons V1 (.cons V2 (.nil _)))) S.ro
set_option maxRecDepth 100000 in
theorem lifted (os : Os) (started : os.Started) (H : Type) (enc : TypeId × Value → H) :
    ReturnsInHanded {} Try.checked os 10 .any (Rows.matrixRanksSpec.pre6 enc Try.prog Try.f10 Rows.matrixRanksRow.domain false) (Rows.matrixRanksSpec.post enc Try.prog Try.f10 false true false false) := by
  refine returnsInHanded_of_change_sized (C := Try.checked) own started (by kernel_rfl) Try.func10
    (ChangeSpec.witness6 (enc := enc) (C := Try.checked) false ⟨#[], #[.agg #[.int .i64 0, .int .i64 0], .slice none 0 0, .agg #[.int .i64 0, .int .i64 0]], []⟩ 8 (by kernel_rfl) (by kernel_rfl) (by kernel_rfl) (by kernel_rfl)) ?_
  intro W base args ds gs before hval0 hW hcnd hsize _
  have hval : ∀ (j : Nat) t v, Try.f10.params[j]? = some t → args[j]? = some v → Value.okWide Try.prog W .any base t v := hval0
  have hW' := hW
  obtain ⟨p, q, hA0, hV, rfl, hfz, hnd⟩ := hW
  have hA : DataW.TrodAll enc Try.prog W 0 (fun _ => true) true Try.f10.params.toList args.toList ds p := hA0
  have hA1 := hA
  rw [Try.params10] at hA hval hA1
  obtain ⟨v0, vs0, d0, ds0, p0, q0, hargs, rfl, rfl, h0, r0⟩ := trodAll_cons hA
  obtain ⟨v1, vs1, d1, ds1, p1, q1, rfl, rfl, rfl, h1, r1⟩ := trodAll_cons r0
  obtain ⟨v2, vs2, d2, ds2, p2, q2, rfl, rfl, rfl, h2, r2⟩ := trodAll_cons r1
  obtain ⟨rfl, rfl, rfl⟩ := trodAll_nil r2
  obtain rfl : args = #[v0, v1, v2] := by cases args; simp_all
  obtain ⟨rfl, rfl⟩ := trodVars_none hV
  obtain ⟨μ1, g1, s1, ls, m1, V1, R1, b1, z1⟩ := (Gx.Start.zero W).ints Try.underlying37 Try.underlying3 (by kernel_rfl) (hval 1 37 v1 rfl rfl) h1
  obtain ⟨a, b, _, V0⟩ := Gx.open_duo (μ := μ1) Try.underlying22 Try.underlying3 (by kernel_rfl) (by kernel_rfl) (hval 0 22 v0 rfl rfl) h0
  obtain ⟨c, d, _, V2⟩ := Gx.open_duo (μ := μ1) Try.underlying22 Try.underlying3 (by kernel_rfl) (by kernel_rfl) (hval 2 22 v2 rfl rfl) h2
  have rbl := reachBytes_lt
  have hlen : ls.length < 4611686018427387904 := by
    rcases z1 with rfl | ⟨sp, rfl⟩
    · simp
    · have := sized_slice hsize (j := 1) (t := 37) (e := 3) rfl rfl Try.underlying37
      rw [Gx.lits_length, show Try.checked.prog.bytesOf 3 = 8 from by kernel_rfl] at this
      omega
  clear hA0 hval0
  refine (walk m1.st R1 hlen (fun a ha => (b1 a ha).1) V0 V1 V2).mono fun e W' ⟨he, bel⟩ => ?_
  subst he
  exact ⟨_, rfl, _, _, _, [], _, [], hW', trodAll_mk1 (shut_bool Try.underlying4 _), Gx.trodAll_after laidOut bel (fun t ht => by
    have : t = 22 ∨ t = 37 := by
      have : t = 22 ∨ t = 37 ∨ t = 22 := by simpa using ht
      rcases this with h | h | h
      · exact .inl h
      · exact .inr h
      · exact .inl h
    rcases this with rfl | rfl <;> exact ⟨by kernel_rfl, of_decide_eq_true (by kernel_rfl)⟩) hA1, rfl, bel.frame _, fun h => by cases h⟩
theorem over : Rows.matrixRanksRow.holds Try.pinned (OpenSpec.ofChange Rows.matrixRanksSpec) :=
  OpenClaim.holds_of_wide 10 Try.f10 rfl rfl rfl rfl rfl rfl rfl ⟨rfl, rfl, rfl, rfl, rfl⟩ rfl rfl rfl rfl rfl (by kernel_rfl) Try.func10 (by kernel_rfl)
    (of_decide_eq_true (by kernel_rfl)) (by unfold Func.isWrapper; first | (rw [if_pos (by decide +kernel)]; kernel_rfl) | (rw [if_neg (by decide +kernel)]; exact ⟨rfl, rfl⟩))
    (fun os started H enc _ => lifted os started H enc)
theorem proved : Rows.MatrixRanksSaid := over
#print axioms proved
end Go.Proofs.Ytkpblfioibiidaa.matrixRanks
