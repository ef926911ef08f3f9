import Derived.Test.YtgnljbdobbahkaaRows
import Derived.WalkKit
import Derived.ProofKit
import Derived.OpenShut
import Derived.ShutString
import Derived.ChangeOld
import Derived.ChangeMaps5
import Derived.Below
import Derived.WideKeyPair
import Derived.SizedLaws
import Derived.JoinedCond
import Derived.Test.YtgnljbdobbahkaaSp2
namespace Go.Proofs.Ytgnljbdobbahkaa.indexWritesUpto
open Go.ChangeShapes Go.WideShapes Go.ChangeAt Go.RowKit
theorem own : ownKnob Try.prog.godebug = none := by kernel_rfl
theorem laidOut : laidOutB Try.prog = true := by kernel_rfl
theorem walk {μ : Gx.BMap} {h : Gx.AHeap} {w : World} (S : Gx.Start w μ h) {a b : Gx.Slc} {xs : List ByteArray} {ys : List Gc.It} (R : Gx.Row Gx.encS h a xs) (S2 : Gx.RowW 6 Gc.itC h b ys) (cu : Gx.Cuts b) (nx : xs.length ≤ 1048576) (ny : ys.length ≤ 1048576) (s1 : ByteArray) (s2 : ByteArray) (n1 : s1.size ≤ 1048576) (n2 : s2.size ≤ 1048576) {v0 : Value} (V0 : Gx.VR μ (.agg ⟨[.slice a.a a.len a.cap, .slice b.a b.len b.cap]⟩) v0) :
  Calls Try.prog 3 #[v0, .string s1, .string s2] w fun e w' => e = .returned (.bool true) ∧ Below w.heap.size w w' := by
 obtain ⟨k, hk⟩ : ∃ k, 3000000 ≤ k := ⟨3000000, Nat.le_refl _⟩
 obtain ⟨r, hp, hr⟩ := Gc.indexWrites_ok hk R S2 cu n1 n2 nx ny
 have hrun : (Gc.e_law16_IndexWrites k (Gc.DD k)).run Bool [.agg ⟨[.slice a.a a.len a.cap, .slice b.a b.len b.cap]⟩, .string s1, .string s2] h (fun v _ => match v with | .bool b => some b | _ => none) = some true := by
  have e : (Gc.e_law16_IndexWrites k (Gc.DD k)).run Bool [.agg ⟨[.slice a.a a.len a.cap, .slice b.a b.len b.cap]⟩, .string s1, .string s2] h (fun v _ => match v with | .bool b => some b | _ => none)
   = (Gc.law16_IndexWrites k (Gc.DD k) (a, b) s1 s2 h).bind fun r => some r.1 := by kernel_rfl
  rw [e]
  exact Gx.bnd hp (by rw [hr])
 refine Gx.law_calls (Gc.ok_law16_IndexWrites (Gc.DD_sound k) k) rfl Try.func3 rfl rfl hrun S.sim S.z (.cons V0 (.cons (.str _) (.cons (.str _) (.nil _)))) S.ro
mutual
 theorem bulk_eq {H : Type} : ∀ d : DataW H, Rows.uptoBulk d = Gx.bulkD d
 | .lit l => by cases l <;> rfl
 | .nil => rfl
 | .ptr d => by simp only [Rows.uptoBulk, Gx.bulkD, bulk_eq d]
 | .slice a b => by simp only [Rows.uptoBulk, Gx.bulkD, bulk_eqL a, bulk_eqL b]
 | .agg a => by simp only [Rows.uptoBulk, Gx.bulkD, bulk_eqL a]
 | .iface _ d => by simp only [Rows.uptoBulk, Gx.bulkD, bulk_eq d]
 | .map a => by simp only [Rows.uptoBulk, Gx.bulkD, bulk_eqE a]
 | .held _ => rfl
 theorem bulk_eqL {H : Type} : ∀ l : List (DataW H), Rows.uptoBulkAll l = Gx.bulkL l
 | [] => rfl
 | d :: r => by simp only [Rows.uptoBulkAll, Gx.bulkL, bulk_eq d, bulk_eqL r]
 theorem bulk_eqE {H : Type} : ∀ l : List (Lit × DataW H), Rows.uptoBulkEntries l = Gx.bulkE l
 | [] => rfl
 | x :: r => by simp only [Rows.uptoBulkEntries, Gx.bulkE, bulk_eqX x, bulk_eqE r]
 theorem bulk_eqX {H : Type} : ∀ x : Lit × DataW H, Rows.uptoBulkEntry x = Gx.bulkX x
 | (l, d) => by cases l <;> simp only [Rows.uptoBulkEntry, Gx.bulkX, bulk_eq d]
end
set_option maxRecDepth 100000 in
theorem contract (H : Type) (enc : TypeId × Value → H) (W : World) (base : Nat) (args : Array Value) (ds gs : List (DataW H)) (before : List MemPlace)
  (hval0 : ∀ (j : Nat) t v, Try.f3.params[j]? = some t → args[j]? = some v → Value.okWide Try.prog W .any base t v)
  (hW : DataW.Whole enc Try.prog Try.f3.params.toList Rows.indexWritesSpec.vars false W args.toList ds gs before) (hk : Rows.uptoSmall H (ds ++ gs) = true) :
  Calls Try.prog 3 args W fun e W' => ∃ v, e = .returned v ∧ Rows.indexWritesSpec.post enc Try.prog Try.f3 false true false false W args v W' := by
 have hval : ∀ (j : Nat) t v, Try.f3.params[j]? = some t → args[j]? = some v → Value.okWide Try.prog W .any base t v := hval0
 have hW' := hW
 obtain ⟨p, q, hA0, hV, rfl, hfz, hnd⟩ := hW
 have hA : DataW.TrodAll enc Try.prog W 0 (fun _ => true) true Try.f3.params.toList args.toList ds p := hA0
 have hA1 := hA
 rw [Try.params3] at hA hval hA1
 obtain ⟨v0, vs0, d0, ds0, p0, q0, hargs, rfl, rfl, h0, r0⟩ := trodAll_cons hA
 obtain ⟨v1, vs1, d1, ds1, p1, q1, rfl, rfl, rfl, h1, r1⟩ := trodAll_cons r0
 obtain ⟨v2, vs2, d2, ds2, p2, q2, rfl, rfl, rfl, h2, r2⟩ := trodAll_cons r1
 obtain ⟨rfl, rfl, rfl⟩ := trodAll_nil r2
 obtain rfl : args = #[v0, v1, v2] := by cases args; simp_all
 obtain ⟨rfl, rfl⟩ := trodVars_none hV
 obtain ⟨μ0, g0, a, b, xs, ys, m0, V0, R, S2, cu, y1, y2⟩ := Gc.open_file (d := 8) (Gx.Start.zero W) (e := 57) Try.underlying25 (by kernel_rfl) rfl rfl (by kernel_rfl) (by kernel_rfl) (hval 0 25 v0 rfl rfl) h0
 obtain ⟨s1, rfl, rfl, _, _⟩ := Go.ChangeMaps.open_string Try.underlying9 (hval 1 9 v1 rfl rfl) h1
 obtain ⟨s2, rfl, rfl, _, _⟩ := Go.ChangeMaps.open_string Try.underlying9 (hval 2 9 v2 rfl rfl) h2
 have hb : Rows.uptoBulkAll ([d0, _, _] ++ []) ≤ 1048576 := of_decide_eq_true hk
 simp only [List.append_nil, Rows.uptoBulkAll, Rows.uptoBulk, bulk_eq] at hb
 have e1 : s1.data.toList.length = s1.size := by simp
 have e2 : s2.data.toList.length = s2.size := by simp
 clear hA0 hval0
 refine (walk m0.st R S2 cu (by omega) (by omega) s1 s2 (by omega) (by omega) V0).mono fun e W' ⟨he, bel⟩ => ?_
 subst he
 exact ⟨_, rfl, _, _, _, [], _, [], hW', trodAll_mk1 (shut_bool Try.underlying4 _), Gx.trodAll_after laidOut bel (fun t ht => by
  have : t = 25 ∨ t = 9 ∨ t = 9 := by simpa using ht
  rcases this with rfl | rfl | rfl <;> exact ⟨by kernel_rfl, of_decide_eq_true (by kernel_rfl)⟩) hA1, rfl, bel.frame _, fun h => by cases h⟩
set_option maxRecDepth 100000 in
theorem lifted (os : Os) (started : os.Started) (H : Type) (enc : TypeId × Value → H) (F : Stop.Interp) :
  ReturnsInHanded {} Try.checked os 3 .any ((Rows.OpenSpec.upto Rows.indexWritesSpec).pre6 enc Try.prog Try.f3 Rows.indexWritesUptoRow.domain false) (((Rows.OpenSpec.upto Rows.indexWritesSpec).at F).post enc Try.prog Try.f3 false true false false) := by
 refine returnsInHanded_of_cond (C := Try.checked) (s := Rows.OpenSpec.upto Rows.indexWritesSpec) (k := Rows.uptoSmall) rfl own started (by kernel_rfl) Try.func3
  (OpenSpec.witness (enc := enc) (C := Try.checked) (s := Rows.OpenSpec.upto Rows.indexWritesSpec) (k := Rows.uptoSmall) rfl false ⟨#[], #[.agg #[.slice none 0 0, .slice none 0 0], .string ⟨#[]⟩, .string ⟨#[]⟩], []⟩ 8 (by kernel_rfl) (by kernel_rfl) (by kernel_rfl) (by kernel_rfl)
   (x := ([.agg [.nil, .nil], .lit (.string []), .lit (.string [])], [], [])) (by kernel_rfl) rfl (by kernel_rfl)) ?_
 intro W base args ds gs before hval hW _ hk _
 exact contract H enc W base args ds gs before hval hW hk
theorem proved : Rows.IndexWritesUptoSaid :=
 OpenClaim.holds_of_cond 3 Try.f3 rfl rfl rfl rfl rfl rfl rfl ⟨rfl, rfl, rfl, rfl, rfl⟩ rfl rfl rfl rfl rfl (by kernel_rfl) Try.func3 (by kernel_rfl)
  (of_decide_eq_true (by kernel_rfl)) (by unfold Func.isWrapper; first | (rw [if_pos (by decide +kernel)]; kernel_rfl) | (rw [if_neg (by decide +kernel)]; exact ⟨rfl, rfl⟩))
  (fun os started H enc _ F => lifted os started H enc F)
#print axioms proved
end Go.Proofs.Ytgnljbdobbahkaa.indexWritesUpto
