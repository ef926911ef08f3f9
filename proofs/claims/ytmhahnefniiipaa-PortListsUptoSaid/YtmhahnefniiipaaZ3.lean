import Derived.Test.YtmhahnefniiipaaRows
import Derived.WalkKit
import Derived.ProofKit
import Derived.OpenShut
import Derived.ShutString
import Derived.ChangeOld
import Derived.ChangeMaps5
import Derived.Below
import Derived.WideKeyPair
import Derived.SizedLaws
import Derived.JoinedCond
import Derived.Test.YtmhahnefniiipaaSp1
namespace Go.Proofs.Ytmhahnefniiipaa.portListsUpto
open Go.ChangeShapes Go.WideShapes Go.ChangeAt Go.RowKit
theorem own : ownKnob Try.prog.godebug = none := by kernel_rfl
theorem laidOut : laidOutB Try.prog = true := by kernel_rfl
theorem walk {μ : Gx.BMap} {h : Gx.AHeap} {w : World} (S : Gx.Start w μ h) {c0 : Gx.Slc} {l0 : List (Gx.DT.V Gs.reqT)} (R0 : Gx.Rep h (.list Gs.reqT) l0 [.slice c0.a c0.len c0.cap]) (z0 : Gx.szV (.list Gs.reqT) l0 ≤ 1048576) {c1 : Gx.Slc} {l1 : List (Gx.DT.V Gs.respT)} (R1 : Gx.Rep h (.list Gs.respT) l1 [.slice c1.a c1.len c1.cap]) (z1 : Gx.szV (.list Gs.respT) l1 ≤ 1048576)  {v0 : Value} (V0 : Gx.VR μ (.slice c0.a c0.len c0.cap) v0) {v1 : Value} (V1 : Gx.VR μ (.slice c1.a c1.len c1.cap) v1) :
  Calls Try.prog 5 #[v0, v1] w fun e w' => e = .returned (.bool true) ∧ Below w.heap.size w w' := by
 obtain ⟨k, hk⟩ : ∃ k, 100000000 ≤ k := ⟨100000000, Nat.le_refl _⟩
 obtain ⟨h', hp⟩ := Gs.port_rep hk R0 R1 z0 z1
 have hrun : (Gs.e_law08_PortLists k (Gs.lev k 3)).run Bool [.slice c0.a c0.len c0.cap, .slice c1.a c1.len c1.cap] h (fun v _ => match v with | .bool b => some b | _ => none) = some true := by
  have e : (Gs.e_law08_PortLists k (Gs.lev k 3)).run Bool [.slice c0.a c0.len c0.cap, .slice c1.a c1.len c1.cap] h (fun v _ => match v with | .bool b => some b | _ => none)
   = (Gs.law08_PortLists k (Gs.lev k 3) c0 c1 h).bind fun r => some r.1 := by kernel_rfl
  rw [e]
  exact Gx.bnd hp rfl
 refine Gx.law_calls (Gs.ok_law08_PortLists (Gs.lev_sound k 3) k) rfl Try.func5 rfl rfl hrun S.sim S.z (.cons V0 (.cons V1 (.nil _))) S.ro
mutual
 theorem bulk_eq {H : Type} : ∀ d : DataW H, Rows.uptoBulk d = Gx.bulkD d
 | .lit l => by cases l <;> rfl
 | .nil => rfl
 | .ptr d => by simp only [Rows.uptoBulk, Gx.bulkD, bulk_eq d]
 | .slice a b => by simp only [Rows.uptoBulk, Gx.bulkD, bulk_eqL a, bulk_eqL b]
 | .agg a => by simp only [Rows.uptoBulk, Gx.bulkD, bulk_eqL a]
 | .iface _ d => by simp only [Rows.uptoBulk, Gx.bulkD, bulk_eq d]
 | .map a => by simp only [Rows.uptoBulk, Gx.bulkD, bulk_eqE a]
 | .held _ => rfl
 theorem bulk_eqL {H : Type} : ∀ l : List (DataW H), Rows.uptoBulkAll l = Gx.bulkL l
 | [] => rfl
 | d :: r => by simp only [Rows.uptoBulkAll, Gx.bulkL, bulk_eq d, bulk_eqL r]
 theorem bulk_eqE {H : Type} : ∀ l : List (Lit × DataW H), Rows.uptoBulkEntries l = Gx.bulkE l
 | [] => rfl
 | x :: r => by simp only [Rows.uptoBulkEntries, Gx.bulkE, bulk_eqX x, bulk_eqE r]
 theorem bulk_eqX {H : Type} : ∀ x : Lit × DataW H, Rows.uptoBulkEntry x = Gx.bulkX x
 | (l, d) => by cases l <;> simp only [Rows.uptoBulkEntry, Gx.bulkX, bulk_eq d]
end
set_option maxRecDepth 100000 in
theorem contract (H : Type) (enc : TypeId × Value → H) (W : World) (base : Nat) (args : Array Value) (ds gs : List (DataW H)) (before : List MemPlace)
  (hval0 : ∀ (j : Nat) t v, Try.f5.params[j]? = some t → args[j]? = some v → Value.okWide Try.prog W .any base t v)
  (hW : DataW.Whole enc Try.prog Try.f5.params.toList Rows.portListsSpec.vars false W args.toList ds gs before) (hk : Rows.uptoSmall H (ds ++ gs) = true) :
  Calls Try.prog 5 args W fun e W' => ∃ v, e = .returned v ∧ Rows.portListsSpec.post enc Try.prog Try.f5 false true false false W args v W' := by
 have hval : ∀ (j : Nat) t v, Try.f5.params[j]? = some t → args[j]? = some v → Value.okWide Try.prog W .any base t v := hval0
 have hW' := hW
 obtain ⟨p, q, hA0, hV, rfl, hfz, hnd⟩ := hW
 have hA : DataW.TrodAll enc Try.prog W 0 (fun _ => true) true Try.f5.params.toList args.toList ds p := hA0
 have hA1 := hA
 rw [Try.params5] at hA hval hA1
 obtain ⟨v0, vs0, d0, ds0, p0, q0, hargs, rfl, rfl, h0, r0⟩ := trodAll_cons hA
 obtain ⟨v1, vs1, d1, ds1, p1, q1, rfl, rfl, rfl, h1, r1⟩ := trodAll_cons r0
 obtain ⟨rfl, rfl, rfl⟩ := trodAll_nil r1
 obtain rfl : args = #[v0, v1] := by cases args; simp_all
 obtain ⟨rfl, rfl⟩ := trodVars_none hV
 obtain ⟨μ0, g0, c0, l0, m0, V0, R0, y0⟩ := (Gx.Start.zero W).dataLB (T := Gs.reqT) (d := 8) (by kernel_rfl) Try.underlying51 (hval 0 51 v0 rfl rfl) h0
 obtain ⟨μ1, g1, c1, l1, m1, V1, R1, y1⟩ := m0.st.dataLB (T := Gs.respT) (d := 8) (by kernel_rfl) Try.underlying52 (hval 1 52 v1 rfl rfl) h1
 have hb : Rows.uptoBulkAll ([d0, d1] ++ []) ≤ 1048576 := of_decide_eq_true hk
 simp only [List.append_nil, Rows.uptoBulkAll] at hb
 have z0 : _ ≤ 1048576 := Nat.le_trans y0 (by simp only [bulk_eq] at hb; omega)
 have z1 : _ ≤ 1048576 := Nat.le_trans y1 (by simp only [bulk_eq] at hb; omega)
 clear hA0 hval0
 refine (walk m1.st (R0.keeps m1.kp) z0 R1 z1 (V0.mono m1.le) V1).mono fun e W' ⟨he, bel⟩ => ?_
 subst he
 exact ⟨_, rfl, _, _, _, [], _, [], hW', trodAll_mk1 (shut_bool Try.underlying4 _), Gx.trodAll_after laidOut bel (fun t ht => by
  have : t = 51 ∨ t = 52 := by simpa using ht
  rcases this with rfl | rfl <;> exact ⟨by kernel_rfl, of_decide_eq_true (by kernel_rfl)⟩) hA1, rfl, bel.frame _, fun h => by cases h⟩
set_option maxRecDepth 100000 in
theorem lifted (os : Os) (started : os.Started) (H : Type) (enc : TypeId × Value → H) (F : Stop.Interp) :
  ReturnsInHanded {} Try.checked os 5 .any ((Rows.OpenSpec.upto Rows.portListsSpec).pre6 enc Try.prog Try.f5 Rows.portListsUptoRow.domain false) (((Rows.OpenSpec.upto Rows.portListsSpec).at F).post enc Try.prog Try.f5 false true false false) := by
 refine returnsInHanded_of_cond (C := Try.checked) (s := Rows.OpenSpec.upto Rows.portListsSpec) (k := Rows.uptoSmall) rfl own started (by kernel_rfl) Try.func5
  (OpenSpec.witness (enc := enc) (C := Try.checked) (s := Rows.OpenSpec.upto Rows.portListsSpec) (k := Rows.uptoSmall) rfl false ⟨#[], #[.slice none 0 0, .slice none 0 0], []⟩ 8 (by kernel_rfl) (by kernel_rfl) (by kernel_rfl) (by kernel_rfl)
   (x := ([.nil, .nil], [], [])) (by kernel_rfl) rfl (by kernel_rfl)) ?_
 intro W base args ds gs before hval hW _ hk _
 exact contract H enc W base args ds gs before hval hW hk
theorem proved : Rows.PortListsUptoSaid :=
 OpenClaim.holds_of_cond 5 Try.f5 rfl rfl rfl rfl rfl rfl rfl ⟨rfl, rfl, rfl, rfl, rfl⟩ rfl rfl rfl rfl rfl (by kernel_rfl) Try.func5 (by kernel_rfl)
  (of_decide_eq_true (by kernel_rfl)) (by unfold Func.isWrapper; first | (rw [if_pos (by decide +kernel)]; kernel_rfl) | (rw [if_neg (by decide +kernel)]; exact ⟨rfl, rfl⟩))
  (fun os started H enc _ F => lifted os started H enc F)
#print axioms proved
end Go.Proofs.Ytmhahnefniiipaa.portListsUpto
