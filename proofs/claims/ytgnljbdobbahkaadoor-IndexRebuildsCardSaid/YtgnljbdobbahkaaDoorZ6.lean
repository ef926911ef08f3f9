import Derived.Test.YtgnljbdobbahkaaDoorRows
import Derived.WalkKit
import Derived.ProofKit
import Derived.OpenShut
import Derived.ShutString
import Derived.ChangeOld
import Derived.ChangeMaps5
import Derived.Below
import Derived.WideKeyPair
import Derived.SizedLaws
import Derived.LaidMore
import Derived.Stop.Joined
import Derived.SevenTiedAt
import Derived.Test.YtgnljbdobbahkaaDoorCards
import Derived.Test.YtgnljbdobbahkaaDoorTie
import Derived.Test.YtgnljbdobbahkaaDoorSp2
namespace Go.Proofs.YtgnljbdobbahkaaDoor.indexRebuilds
open Go.ChangeShapes Go.WideShapes Go.ChangeAt Go.RowKit
theorem own : ownKnob Tryd.prog.godebug = none := by kernel_rfl
theorem laidOut : laidOutB Tryd.prog = true := by kernel_rfl
theorem gK : Tryd.prog.globalNamed "garret/sha.constants" = some 0 := by kernel_rfl
theorem tK : (Tryd.prog.globals[0]?).map (·.type) = some 174 := by kernel_rfl
theorem uK : Tryd.prog.underlying 174 = some (.array 64 146) := by kernel_rfl
theorem uE : Tryd.prog.underlying 146 = some (.int .u32) := by kernel_rfl
theorem cE : Tryd.prog.cellsOf 146 = 1 := by kernel_rfl
set_option maxRecDepth 100000 in
theorem dK : (Rows.laid_garret_sha_constants : DataW Unit) = .agg (Gx.shaK.map fun x => .lit (.int .u32 (x.toNat : Int))) := by kernel_rfl
theorem pK : ([("garret/sha.constants", Rows.laid_garret_sha_constants)].all fun x => (x.2 : DataW Unit).handleName?.isNone) = true := by kernel_rfl
theorem door_met (os : Os) (args : Array Value) : laidMetH Tryd.prog [("garret/sha.constants", Rows.laid_garret_sha_constants)] ((World.doorLaid Tryd.prog 400 os).forCall (fun _ _ => 0) ⟨#[], args, []⟩).memory :=
 laidMetH_of_parts3 (fuel := 8) (laidMet_of_run' 8 (by kernel_rfl) (by kernel_rfl)) (by kernel_rfl) (by kernel_rfl)
theorem start0 {W : World} (h : laidMetH Tryd.prog [("garret/sha.constants", Rows.laid_garret_sha_constants)] W) : ∃ μ h, Gx.Start W μ h 2 ∧ Gx.KG 0 h := by
 obtain ⟨arr, ty, fz, hO, hl⟩ := Gx.laid_words (l := Gx.shaK) gK tK uK uE cE dK pK h
 exact ⟨_, _, Gx.Start.glob (G := 2) (by decide) hO hl, Gx.kg_hG (by decide) ty⟩
theorem walk {μ : Gx.BMap} {h : Gx.AHeap} {w : World} (S : Gx.Start w μ h 2) (kg : Gx.KG 0 h) {c0 : Gx.Slc} {l0 : List (Gx.DT.V (.list .str))} (R0 : Gx.Rep h (.list (.list .str)) l0 [.slice c0.a c0.len c0.cap]) (s1 : ByteArray) {v0 : Value} (V0 : Gx.VR μ (.slice c0.a c0.len c0.cap) v0) :
  Calls Tryd.prog 8 #[v0, .string s1] w fun e w' => e = .returned (.bool true) ∧ Below w.heap.size w w' := by
 obtain ⟨k, hk⟩ : ∃ k, 5000000 ≤ k := ⟨5000000, Nat.le_refl _⟩
 obtain ⟨h', hp⟩ := Ge.rebuilds_T hk  kg R0 s1
 have hrun : (Ge.e_law16_IndexRebuilds k (Ge.DD k)).run Bool [.slice c0.a c0.len c0.cap, .string s1] h (fun v _ => match v with | .bool b => some b | _ => none) = some true := by
  have e : (Ge.e_law16_IndexRebuilds k (Ge.DD k)).run Bool [.slice c0.a c0.len c0.cap, .string s1] h (fun v _ => match v with | .bool b => some b | _ => none)
   = (Ge.law16_IndexRebuilds k (Ge.DD k) c0 s1 h).bind fun r => some r.1 := by kernel_rfl
  rw [e]
  exact Gx.bnd hp rfl
 refine Gx.law_calls (Ge.ok_law16_IndexRebuilds (Ge.DD_sound k) k) rfl Tryd.func8 rfl rfl hrun S.sim S.z (.cons V0 (.cons (.str _) (.nil _))) S.ro
set_option maxRecDepth 100000 in
theorem lifted (os : Os) (started : os.Started) (H : Type) (enc : TypeId × Value → H) :
  ReturnsInHanded {} Tryd.checked os 8 .any (fun w args => (Rows.indexRebuildsSpec.pre enc Tryd.prog Tryd.f8 [] false w args ∧ laidMetH Tryd.prog [("garret/sha.constants", Rows.laid_garret_sha_constants)] w) ∧ sizedMet enc Tryd.prog Tryd.f8 (OpenSpec.ofChange Rows.indexRebuildsSpec) false w args) (Rows.indexRebuildsSpec.post enc Tryd.prog Tryd.f8 false true false false) := by
 refine returnsInHanded_of_change_and (C := Tryd.checked) (X := fun w _ => laidMetH Tryd.prog [("garret/sha.constants", Rows.laid_garret_sha_constants)] w) (fun _ _ _ hh h => h.of_heap hh) own started (by kernel_rfl) Tryd.func8
  (ChangeSpec.witness_shaped (enc := enc) (C := Tryd.checked) (os := os) (X := fun w _ => laidMetH Tryd.prog [("garret/sha.constants", Rows.laid_garret_sha_constants)] w) false (World.doorLaid Tryd.prog 400 os) #[.slice none 0 0, .string ⟨#[]⟩] 8 rfl (World.shaped_of_RefB (by kernel_rfl) (by kernel_rfl)) (by kernel_rfl) (by kernel_rfl) (by kernel_rfl) (door_met os _)) ?_
 intro W base args ds gs before hval0 hW _ _ hL _
 obtain ⟨μ0, g0', S0, kg0⟩ := start0 hL
 have hval : ∀ (j : Nat) t v, Tryd.f8.params[j]? = some t → args[j]? = some v → Value.okWide Tryd.prog W .any base t v := hval0
 have hW' := hW
 obtain ⟨p, q, hA0, hV, rfl, hfz, hnd⟩ := hW
 have hA : DataW.TrodAll enc Tryd.prog W 0 (fun _ => true) true Tryd.f8.params.toList args.toList ds p := hA0
 have hA1 := hA
 rw [Tryd.params8] at hA hval hA1
 obtain ⟨v0, vs0, d0, ds0, p0, q0, hargs, rfl, rfl, h0, r0⟩ := trodAll_cons hA
 obtain ⟨v1, vs1, d1, ds1, p1, q1, rfl, rfl, rfl, h1, r1⟩ := trodAll_cons r0
 obtain ⟨rfl, rfl, rfl⟩ := trodAll_nil r1
 obtain rfl : args = #[v0, v1] := by cases args; simp_all
 obtain ⟨rfl, rfl⟩ := trodVars_none hV
 obtain ⟨μ0, g0, c0, l0, m0, V0, R0⟩ := S0.dataL (T := (.list .str)) (d := 8) (by kernel_rfl) Tryd.underlying60 (hval 0 60 v0 rfl rfl) h0
 obtain ⟨s1, rfl, _, _, _⟩ := Go.ChangeMaps.open_string Tryd.underlying9 (hval 1 9 v1 rfl rfl) h1
 clear hA0 hval0
 refine (walk m0.st (kg0.chg (m0.kp) fun f => f) R0 s1 V0).mono fun e W' ⟨he, bel⟩ => ?_
 subst he
 exact ⟨_, rfl, _, _, _, [], _, [], hW', trodAll_mk1 (shut_bool Tryd.underlying4 _), Gx.trodAll_after laidOut bel (fun t ht => by
  have : t = 60 ∨ t = 9 := by simpa using ht
  rcases this with rfl | rfl <;> exact ⟨by kernel_rfl, of_decide_eq_true (by kernel_rfl)⟩) hA1, rfl, bel.frame _, fun h => by cases h⟩
theorem over : Rows.IndexRebuildsSaid :=
 OpenClaim.holds_of_wide 8 Tryd.f8 rfl rfl rfl rfl rfl rfl rfl ⟨rfl, rfl, rfl, rfl, rfl⟩ rfl rfl rfl rfl rfl (by kernel_rfl) Tryd.func8 (by kernel_rfl)
  (of_decide_eq_true (by kernel_rfl)) (by unfold Func.isWrapper; first | (rw [if_pos (by decide +kernel)]; kernel_rfl) | (rw [if_neg (by decide +kernel)]; exact ⟨rfl, rfl⟩))
  (fun os started H enc _ => lifted os started H enc)
theorem proved : Rows.IndexRebuildsCardSaid :=
 Claim7.holds_tied_plain_at .later [] [.data] true (true, "c2a61d7a9782c7fe2099faacd5b18ee4dbdc9e6d70330bf0307aa8c3284f79a0") false
  over (fun _ h => by cases h) (by kernel_rfl) (fun _ h => by cases h) indexRebuilds_row_tie rfl ⟨rfl, rfl⟩ (by kernel_rfl) rfl
  (fun f fn hf hfn => by
   obtain rfl : f = 8 := Option.some.inj ((show Tryd.prog.funcNamed Rows.indexRebuildsRow.func = some 8 by kernel_rfl).symm.trans hf) |>.symm
   obtain rfl : fn = Tryd.f8 := (Option.some.inj (Tryd.func8.symm.trans hfn)).symm
   exact ⟨by kernel_rfl, fun j t ht => by
    rw [Tryd.params8] at ht
    have hm : t ∈ [60, 9] := by simpa using Array.mem_of_getElem? ht
    have hall : ([60, 9].all fun u => !Tryd.prog.wantsStandIn u) = true := by kernel_rfl
    exact (show Tryd.prog.wantsStandIn t = false by simpa using List.all_eq_true.1 hall t hm)⟩)
  (by kernel_rfl)
#print axioms proved
end Go.Proofs.YtgnljbdobbahkaaDoor.indexRebuilds
