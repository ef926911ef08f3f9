import Derived.Test.YtkbemlojkhhgaaaGreatDoorRows
import Derived.WalkKit
import Derived.ProofKit
import Derived.OpenShut
import Derived.ShutString
import Derived.ChangeOld
import Derived.ChangeMaps5
import Derived.Below
import Derived.WideKeyPair
import Derived.SizedLaws
import Derived.LaidMore
import Derived.Stop.Joined
import Derived.SevenTiedAt
import Derived.Test.YtkbemlojkhhgaaaGreatDoorCards
import Derived.Test.YtkbemlojkhhgaaaGreatDoorTie
import Derived.Test.YtkbemlojkhhgaaaGreatDoorSp3
namespace Go.Proofs.YtkbemlojkhhgaaaGreatDoor.topIndex
open Go.ChangeShapes Go.WideShapes Go.ChangeAt Go.RowKit
theorem own : ownKnob Tryz.prog.godebug = none := by kernel_rfl
theorem laidOut : laidOutB Tryz.prog = true := by kernel_rfl
theorem gK : Tryz.prog.globalNamed "garret/sha.constants" = some 0 := by kernel_rfl
theorem tK : (Tryz.prog.globals[0]?).map (·.type) = some 171 := by kernel_rfl
theorem uK : Tryz.prog.underlying 171 = some (.array 64 138) := by kernel_rfl
theorem uE : Tryz.prog.underlying 138 = some (.int .u32) := by kernel_rfl
theorem cE : Tryz.prog.cellsOf 138 = 1 := by kernel_rfl
set_option maxRecDepth 100000 in
theorem dK : (Rows.laid_garret_sha_constants : DataW Unit) = .agg (Gx.shaK.map fun x => .lit (.int .u32 (x.toNat : Int))) := by kernel_rfl
theorem pK1 : ([("garret/sha.constants", Rows.laid_garret_sha_constants)].all fun x => (x.2 : DataW Unit).handleName?.isNone) = true := by kernel_rfl
theorem pK : ([("garret/gear.mixes", Rows.laid_garret_gear_mixes), ("garret/sha.constants", Rows.laid_garret_sha_constants)].all fun x => (x.2 : DataW Unit).handleName?.isNone) = true := by kernel_rfl
theorem gM : Tryz.prog.globalNamed "garret/gear.mixes" = some 1 := by kernel_rfl
theorem tM : (Tryz.prog.globals[1]?).map (·.type) = some 204 := by kernel_rfl
theorem uM : Tryz.prog.underlying 204 = some (.array 2 203) := by kernel_rfl
theorem cM : Tryz.prog.cellsOf 203 = 2 := by kernel_rfl
theorem cM2 : Tryz.prog.cellsOf 204 = 4 := by kernel_rfl
theorem door_met (os : Os) (args : Array Value) : laidMetH Tryz.prog [("garret/gear.mixes", Rows.laid_garret_gear_mixes), ("garret/sha.constants", Rows.laid_garret_sha_constants)] ((World.doorLaid Tryz.prog 400 os).forCall (fun _ _ => 0) ⟨#[], args, []⟩).memory :=
 laidMetH_of_parts3 (fuel := 8) (laidMet_of_run' 8 (by kernel_rfl) (by kernel_rfl)) (by kernel_rfl) (by kernel_rfl)
theorem start0 {W : World} (h : laidMetH Tryz.prog [("garret/gear.mixes", Rows.laid_garret_gear_mixes), ("garret/sha.constants", Rows.laid_garret_sha_constants)] W) : ∃ μ h, Gx.Start W μ h 2 ∧ Gx.KG 0 h ∧ Gg.KM h := by
 rw [MakeChecks.laidMetH_plain _ _ _ pK] at h
 obtain ⟨ty', fz', hM⟩ := Gg.zgy_ (a := 31) (b := 13787848793156543929) (c := 29) (z := 1) gM tM uM Tryz.underlying203 cM cM2 rfl rfl rfl rfl (by kernel_rfl) (by kernel_rfl) (by kernel_rfl) (by kernel_rfl) rfl h
 have h1 : laidMetH Tryz.prog [("garret/sha.constants", Rows.laid_garret_sha_constants)] W := by
  rw [MakeChecks.laidMetH_plain _ _ _ pK1]
  exact h.tail
 obtain ⟨arr, ty, fz, hO, hl⟩ := Gx.zcy_ (l := Gx.shaK) gK tK uK uE cE dK pK1 h1
 obtain ⟨μ, S⟩ := Gg.Start.two hO hl hM
 exact ⟨μ, _, S, Gg.zrD_ ty ty', Gg.zzD_ _ ty ty'⟩
theorem walk {μ : Gx.BMap} {h : Gx.AHeap} {w : World} (S : Gx.Start w μ h 2) (kg : Gx.KG 0 h) (km : Gg.KM h)  (s0 : ByteArray) (b1 : Bool)  :
  Calls Tryz.prog 3 #[.string s0, .bool b1] w fun e w' => e = .returned (.bool true) ∧ Below w.heap.size w w' := by
 obtain ⟨k, hk⟩ : ∃ k, 3000000 ≤ k := ⟨3000000, Nat.le_refl _⟩
 obtain ⟨h', hp⟩ := Gg.zUD_ hk kg km s0 b1
 have hrun : (Gg.zji_ k (Gg.DD k)).run Bool [.string s0, .bool b1] h (fun v _ => match v with | .bool b => some b | _ => none) = some true := by
  have e : (Gg.zji_ k (Gg.DD k)).run Bool [.string s0, .bool b1] h (fun v _ => match v with | .bool b => some b | _ => none)
   = (Gg.zEf_ k (Gg.DD k) s0 b1 h).bind fun r => some r.1 := by kernel_rfl
  rw [e]
  exact Gx.bnd hp rfl
 refine Gx.zRy_ (Gg.zDr_ (Gg.zYB_ k) k) rfl Tryz.func3 rfl rfl hrun S.sim S.z (.cons (.str _) (.cons (.bool _) (.nil _))) S.ro
set_option maxRecDepth 100000 in
theorem lifted (os : Os) (started : os.Started) (H : Type) (enc : TypeId × Value → H) :
  ReturnsInHanded {} Tryz.checked os 3 .any (fun w args => (Rows.topIndexSpec.pre enc Tryz.prog Tryz.f3 [] false w args ∧ laidMetH Tryz.prog [("garret/gear.mixes", Rows.laid_garret_gear_mixes), ("garret/sha.constants", Rows.laid_garret_sha_constants)] w) ∧ sizedMet enc Tryz.prog Tryz.f3 (OpenSpec.ofChange Rows.topIndexSpec) false w args) (Rows.topIndexSpec.post enc Tryz.prog Tryz.f3 false true false false) := by
 refine returnsInHanded_of_change_and (C := Tryz.checked) (X := fun w _ => laidMetH Tryz.prog [("garret/gear.mixes", Rows.laid_garret_gear_mixes), ("garret/sha.constants", Rows.laid_garret_sha_constants)] w) (fun _ _ _ hh h => h.of_heap hh) own started (by kernel_rfl) Tryz.func3
  (ChangeSpec.witness_shaped (enc := enc) (C := Tryz.checked) (os := os) (X := fun w _ => laidMetH Tryz.prog [("garret/gear.mixes", Rows.laid_garret_gear_mixes), ("garret/sha.constants", Rows.laid_garret_sha_constants)] w) false (World.doorLaid Tryz.prog 400 os) #[.string ⟨#[]⟩, .bool false] 8 rfl (World.shaped_of_RefB (by kernel_rfl) (by kernel_rfl)) (by kernel_rfl) (by kernel_rfl) (by kernel_rfl) (door_met os _)) ?_
 intro W base args ds gs before hval0 hW _ _ hL _
 obtain ⟨μ0, g0', S0, kg0, km0⟩ := start0 hL
 have hval : ∀ (j : Nat) t v, Tryz.f3.params[j]? = some t → args[j]? = some v → Value.okWide Tryz.prog W .any base t v := hval0
 have hW' := hW
 obtain ⟨p, q, hA0, hV, rfl, hfz, hnd⟩ := hW
 have hA : DataW.TrodAll enc Tryz.prog W 0 (fun _ => true) true Tryz.f3.params.toList args.toList ds p := hA0
 have hA1 := hA
 rw [Tryz.params3] at hA hval hA1
 obtain ⟨v0, vs0, d0, ds0, p0, q0, hargs, rfl, rfl, h0, r0⟩ := trodAll_cons hA
 obtain ⟨v1, vs1, d1, ds1, p1, q1, rfl, rfl, rfl, h1, r1⟩ := trodAll_cons r0
 obtain ⟨rfl, rfl, rfl⟩ := trodAll_nil r1
 obtain rfl : args = #[v0, v1] := by cases args; simp_all
 obtain ⟨rfl, rfl⟩ := trodVars_none hV
 obtain ⟨s0, rfl, _, _, _⟩ := Go.ChangeMaps.open_string Tryz.underlying9 (hval 0 9 v0 rfl rfl) h0
 obtain ⟨b1, rfl, _, _⟩ := open_bool Tryz.underlying4 (hval 1 4 v1 rfl rfl) h1
 clear hA0 hval0
 refine (walk S0 kg0 km0  s0 b1 ).mono fun e W' ⟨he, bel⟩ => ?_
 subst he
 exact ⟨_, rfl, _, _, _, [], _, [], hW', trodAll_mk1 (shut_bool Tryz.underlying4 _), Gx.zYm_ laidOut bel (fun t ht => by
  have : t = 9 ∨ t = 4 := by simpa using ht
  rcases this with rfl | rfl <;> exact ⟨by kernel_rfl, of_decide_eq_true (by kernel_rfl)⟩) hA1, rfl, bel.frame _, fun h => by cases h⟩
theorem over : Rows.TopIndexSaid :=
 OpenClaim.holds_of_wide 3 Tryz.f3 rfl rfl rfl rfl rfl rfl rfl ⟨rfl, rfl, rfl, rfl, rfl⟩ rfl rfl rfl rfl rfl (by kernel_rfl) Tryz.func3 (by kernel_rfl)
  (of_decide_eq_true (by kernel_rfl)) (by unfold Func.isWrapper; first | (rw [if_pos (by decide +kernel)]; kernel_rfl) | (rw [if_neg (by decide +kernel)]; exact ⟨rfl, rfl⟩))
  (fun os started H enc _ => lifted os started H enc)
theorem proved : Rows.TopIndexCardSaid :=
 Claim7.holds_tied_plain_at .later [] [.data, .data] true (true, "33698e58aaffc66a92ae2b24b773d8e888273615c143d4e6fa5bb7ea8df51a7b") false
  over (fun _ h => by cases h) (by kernel_rfl) (fun _ h => by cases h) topIndex_row_tie rfl ⟨rfl, rfl⟩ (by kernel_rfl) rfl
  (fun f fn hf hfn => by
   obtain rfl : f = 3 := Option.some.inj ((show Tryz.prog.funcNamed Rows.topIndexRow.func = some 3 by kernel_rfl).symm.trans hf) |>.symm
   obtain rfl : fn = Tryz.f3 := (Option.some.inj (Tryz.func3.symm.trans hfn)).symm
   exact ⟨by kernel_rfl, fun j t ht => by
    rw [Tryz.params3] at ht
    have hm : t ∈ [9, 4] := by simpa using Array.mem_of_getElem? ht
    have hall : ([9, 4].all fun u => !Tryz.prog.wantsStandIn u) = true := by kernel_rfl
    exact (show Tryz.prog.wantsStandIn t = false by simpa using List.all_eq_true.1 hall t hm)⟩)
  (by kernel_rfl)
#print axioms proved
end Go.Proofs.YtkbemlojkhhgaaaGreatDoor.topIndex
