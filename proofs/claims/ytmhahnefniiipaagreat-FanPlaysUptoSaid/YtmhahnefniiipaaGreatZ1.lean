import Derived.Test.YtmhahnefniiipaaGreatRows
import Derived.WalkKit
import Derived.ProofKit
import Derived.OpenShut
import Derived.ShutString
import Derived.ChangeOld
import Derived.ChangeMaps5
import Derived.Below
import Derived.WideKeyPair
import Derived.SizedLaws
import Derived.JoinedCond
import Derived.Test.YtmhahnefniiipaaGreatSp2
namespace Go.Proofs.YtmhahnefniiipaaGreat.fanPlaysUpto
open Go.ChangeShapes Go.WideShapes Go.ChangeAt Go.RowKit
theorem own : ownKnob Tryz.prog.godebug = none := by kernel_rfl
theorem laidOut : laidOutB Tryz.prog = true := by kernel_rfl
theorem walk {μ : Gx.BMap} {h : Gx.AHeap} {w : World} (S : Gx.Start w μ h) {c0 : Gx.Slc} {l0 : List (Gx.DT.V Gt.actF)} (R0 : Gx.Rep h (.list Gt.actF) l0 [.slice c0.a c0.len c0.cap]) (z0 : Gx.szV (.list Gt.actF) l0 ≤ 1048576)  {v0 : Value} (V0 : Gx.VR μ (.slice c0.a c0.len c0.cap) v0) :
  Calls Tryz.prog 4 #[v0] w fun e w' => e = .returned (.bool true) ∧ Below w.heap.size w w' := by
 obtain ⟨k, hk⟩ : ∃ k, 400000000 ≤ k := ⟨400000000, Nat.le_refl _⟩
 obtain ⟨h', hp⟩ := Gt.fanPlays_rep hk R0 z0
 have hrun : (Gt.e_law09_FanPlays k (Gt.DD k)).run Bool [.slice c0.a c0.len c0.cap] h (fun v _ => match v with | .bool b => some b | _ => none) = some true := by
  have e : (Gt.e_law09_FanPlays k (Gt.DD k)).run Bool [.slice c0.a c0.len c0.cap] h (fun v _ => match v with | .bool b => some b | _ => none)
   = (Gt.law09_FanPlays k (Gt.DD k) c0 h).bind fun r => some r.1 := by kernel_rfl
  rw [e]
  exact Gx.bnd hp rfl
 refine Gx.law_calls (Gt.ok_law09_FanPlays (Gt.DD_sound k) k) rfl Tryz.func4 rfl rfl hrun S.sim S.z (.cons V0 (.nil _)) S.ro
mutual
 theorem bulk_eq {H : Type} : ∀ d : DataW H, Rows.uptoBulk d = Gx.bulkD d
 | .lit l => by cases l <;> rfl
 | .nil => rfl
 | .ptr d => by simp only [Rows.uptoBulk, Gx.bulkD, bulk_eq d]
 | .slice a b => by simp only [Rows.uptoBulk, Gx.bulkD, bulk_eqL a, bulk_eqL b]
 | .agg a => by simp only [Rows.uptoBulk, Gx.bulkD, bulk_eqL a]
 | .iface _ d => by simp only [Rows.uptoBulk, Gx.bulkD, bulk_eq d]
 | .map a => by simp only [Rows.uptoBulk, Gx.bulkD, bulk_eqE a]
 | .held _ => rfl
 theorem bulk_eqL {H : Type} : ∀ l : List (DataW H), Rows.uptoBulkAll l = Gx.bulkL l
 | [] => rfl
 | d :: r => by simp only [Rows.uptoBulkAll, Gx.bulkL, bulk_eq d, bulk_eqL r]
 theorem bulk_eqE {H : Type} : ∀ l : List (Lit × DataW H), Rows.uptoBulkEntries l = Gx.bulkE l
 | [] => rfl
 | x :: r => by simp only [Rows.uptoBulkEntries, Gx.bulkE, bulk_eqX x, bulk_eqE r]
 theorem bulk_eqX {H : Type} : ∀ x : Lit × DataW H, Rows.uptoBulkEntry x = Gx.bulkX x
 | (l, d) => by cases l <;> simp only [Rows.uptoBulkEntry, Gx.bulkX, bulk_eq d]
end
set_option maxRecDepth 100000 in
theorem contract (H : Type) (enc : TypeId × Value → H) (W : World) (base : Nat) (args : Array Value) (ds gs : List (DataW H)) (before : List MemPlace)
  (hval0 : ∀ (j : Nat) t v, Tryz.f4.params[j]? = some t → args[j]? = some v → Value.okWide Tryz.prog W .any base t v)
  (hW : DataW.Whole enc Tryz.prog Tryz.f4.params.toList Rows.fanPlaysSpec.vars false W args.toList ds gs before) (hk : Rows.uptoSmall H (ds ++ gs) = true) :
  Calls Tryz.prog 4 args W fun e W' => ∃ v, e = .returned v ∧ Rows.fanPlaysSpec.post enc Tryz.prog Tryz.f4 false true false false W args v W' := by
 have hval : ∀ (j : Nat) t v, Tryz.f4.params[j]? = some t → args[j]? = some v → Value.okWide Tryz.prog W .any base t v := hval0
 have hW' := hW
 obtain ⟨p, q, hA0, hV, rfl, hfz, hnd⟩ := hW
 have hA : DataW.TrodAll enc Tryz.prog W 0 (fun _ => true) true Tryz.f4.params.toList args.toList ds p := hA0
 have hA1 := hA
 rw [Tryz.params4] at hA hval hA1
 obtain ⟨v0, vs0, d0, ds0, p0, q0, hargs, rfl, rfl, h0, r0⟩ := trodAll_cons hA
 obtain ⟨rfl, rfl, rfl⟩ := trodAll_nil r0
 obtain rfl : args = #[v0] := by cases args; simp_all
 obtain ⟨rfl, rfl⟩ := trodVars_none hV
 obtain ⟨μ0, g0, c0, l0, m0, V0, R0, y0⟩ := (Gx.Start.zero W).dataLB (T := Gt.actF) (d := 8) (by kernel_rfl) Tryz.underlying62 (hval 0 62 v0 rfl rfl) h0
 have hb : Rows.uptoBulkAll ([d0] ++ []) ≤ 1048576 := of_decide_eq_true hk
 simp only [List.append_nil, Rows.uptoBulkAll] at hb
 have z0 : _ ≤ 1048576 := Nat.le_trans y0 (by simp only [bulk_eq] at hb; omega)
 clear hA0 hval0
 refine (walk m0.st R0 z0 V0).mono fun e W' ⟨he, bel⟩ => ?_
 subst he
 exact ⟨_, rfl, _, _, _, [], _, [], hW', trodAll_mk1 (shut_bool Tryz.underlying4 _), Gx.trodAll_after laidOut bel (fun t ht => by
  have : t = 62 := by simpa using ht
  subst this; exact ⟨by kernel_rfl, of_decide_eq_true (by kernel_rfl)⟩) hA1, rfl, bel.frame _, fun h => by cases h⟩
set_option maxRecDepth 100000 in
theorem lifted (os : Os) (started : os.Started) (H : Type) (enc : TypeId × Value → H) (F : Stop.Interp) :
  ReturnsInHanded {} Tryz.checked os 4 .any ((Rows.OpenSpec.upto Rows.fanPlaysSpec).pre6 enc Tryz.prog Tryz.f4 Rows.fanPlaysUptoRow.domain false) (((Rows.OpenSpec.upto Rows.fanPlaysSpec).at F).post enc Tryz.prog Tryz.f4 false true false false) := by
 refine returnsInHanded_of_cond (C := Tryz.checked) (s := Rows.OpenSpec.upto Rows.fanPlaysSpec) (k := Rows.uptoSmall) rfl own started (by kernel_rfl) Tryz.func4
  (OpenSpec.witness (enc := enc) (C := Tryz.checked) (s := Rows.OpenSpec.upto Rows.fanPlaysSpec) (k := Rows.uptoSmall) rfl false ⟨#[], #[.slice none 0 0], []⟩ 8 (by kernel_rfl) (by kernel_rfl) (by kernel_rfl) (by kernel_rfl)
   (x := ([.nil], [], [])) (by kernel_rfl) rfl (by kernel_rfl)) ?_
 intro W base args ds gs before hval hW _ hk _
 exact contract H enc W base args ds gs before hval hW hk
theorem proved : Rows.FanPlaysUptoSaid :=
 OpenClaim.holds_of_cond 4 Tryz.f4 rfl rfl rfl rfl rfl rfl rfl ⟨rfl, rfl, rfl, rfl, rfl⟩ rfl rfl rfl rfl rfl (by kernel_rfl) Tryz.func4 (by kernel_rfl)
  (of_decide_eq_true (by kernel_rfl)) (by unfold Func.isWrapper; first | (rw [if_pos (by decide +kernel)]; kernel_rfl) | (rw [if_neg (by decide +kernel)]; exact ⟨rfl, rfl⟩))
  (fun os started H enc _ F => lifted os started H enc F)
#print axioms proved
end Go.Proofs.YtmhahnefniiipaaGreat.fanPlaysUpto
