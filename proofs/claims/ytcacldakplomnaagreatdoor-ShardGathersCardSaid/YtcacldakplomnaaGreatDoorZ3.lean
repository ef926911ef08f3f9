import Derived.Test.YtcacldakplomnaaGreatDoorRows
import Derived.WalkKit
import Derived.ProofKit
import Derived.OpenShut
import Derived.ShutString
import Derived.ChangeOld
import Derived.ChangeMaps5
import Derived.Below
import Derived.WideKeyPair
import Derived.SizedLaws
import Derived.LaidMore
import Derived.Stop.Joined
import Derived.SevenTiedAt
import Derived.Test.YtcacldakplomnaaGreatDoorCards
import Derived.Test.YtcacldakplomnaaGreatDoorTie
import Derived.Test.YtcacldakplomnaaGreatDoorSp3
namespace Go.Proofs.YtcacldakplomnaaGreatDoor.shardGathers
open Go.ChangeShapes Go.WideShapes Go.ChangeAt Go.RowKit
theorem own : ownKnob Tryz.prog.godebug = none := by kernel_rfl
theorem laidOut : laidOutB Tryz.prog = true := by kernel_rfl
theorem gK : Tryz.prog.globalNamed "garret/sha.constants" = some 0 := by kernel_rfl
theorem tK : (Tryz.prog.globals[0]?).map (·.type) = some 159 := by kernel_rfl
theorem uK : Tryz.prog.underlying 159 = some (.array 64 77) := by kernel_rfl
theorem uE : Tryz.prog.underlying 77 = some (.int .u32) := by kernel_rfl
theorem cE : Tryz.prog.cellsOf 77 = 1 := by kernel_rfl
set_option maxRecDepth 100000 in
theorem dK : (Rows.laid_garret_sha_constants : DataW Unit) = .agg (Gx.shaK.map fun x => .lit (.int .u32 (x.toNat : Int))) := by kernel_rfl
theorem pK : ([("garret/sha.constants", Rows.laid_garret_sha_constants)].all fun x => (x.2 : DataW Unit).handleName?.isNone) = true := by kernel_rfl
theorem door_met (os : Os) (args : Array Value) : laidMetH Tryz.prog [("garret/sha.constants", Rows.laid_garret_sha_constants)] ((World.doorLaid Tryz.prog 400 os).forCall (fun _ _ => 0) ⟨#[], args, []⟩).memory :=
 laidMetH_of_parts3 (fuel := 8) (laidMet_of_run' 8 (by kernel_rfl) (by kernel_rfl)) (by kernel_rfl) (by kernel_rfl)
theorem start0 {W : World} (h : laidMetH Tryz.prog [("garret/sha.constants", Rows.laid_garret_sha_constants)] W) : ∃ μ h, Gx.Start W μ h 2 ∧ Gx.KG 0 h := by
 obtain ⟨arr, ty, fz, hO, hl⟩ := Gx.zaB_ (l := Gx.shaK) gK tK uK uE cE dK pK h
 exact ⟨_, _, Gx.Start.glob (G := 2) (by decide) hO hl, Gx.zrH_ (by decide) ty⟩
theorem walk {μ : Gx.BMap} {h : Gx.AHeap} {w : World} (S : Gx.Start w μ h 2) (kg : Gx.KG 0 h) {c0 : Gx.Slc} {l0 : List (Gx.DT.V Gz.shT)} (R0 : Gx.Rep h (.list Gz.shT) l0 [.slice c0.a c0.len c0.cap])  {v0 : Value} (V0 : Gx.VR μ (.slice c0.a c0.len c0.cap) v0) :
  Calls Tryz.prog 4 #[v0] w fun e w' => e = .returned (.bool true) ∧ Below w.heap.size w w' := by
 obtain ⟨k, hk⟩ : ∃ k, 200000 ≤ k := ⟨200000, Nat.le_refl _⟩
 obtain ⟨h', hp⟩ := Gz.zKz_ hk  kg R0
 have hrun : (Gz.zcf_ k (Gz.DD k)).run Bool [.slice c0.a c0.len c0.cap] h (fun v _ => match v with | .bool b => some b | _ => none) = some true := by
  have e : (Gz.zcf_ k (Gz.DD k)).run Bool [.slice c0.a c0.len c0.cap] h (fun v _ => match v with | .bool b => some b | _ => none)
   = (Gz.zJb_ k (Gz.DD k) c0 h).bind fun r => some r.1 := by kernel_rfl
  rw [e]
  exact Gx.bnd hp rfl
 refine Gx.zzC_ (Gz.zwm_ (Gz.zzE_ k) k) rfl Tryz.func4 rfl rfl hrun S.sim S.z (.cons V0 (.nil _)) S.ro
set_option maxRecDepth 100000 in
theorem lifted (os : Os) (started : os.Started) (H : Type) (enc : TypeId × Value → H) :
  ReturnsInHanded {} Tryz.checked os 4 .any (fun w args => (Rows.shardGathersSpec.pre enc Tryz.prog Tryz.f4 [] false w args ∧ laidMetH Tryz.prog [("garret/sha.constants", Rows.laid_garret_sha_constants)] w) ∧ sizedMet enc Tryz.prog Tryz.f4 (OpenSpec.ofChange Rows.shardGathersSpec) false w args) (Rows.shardGathersSpec.post enc Tryz.prog Tryz.f4 false true false false) := by
 refine returnsInHanded_of_change_and (C := Tryz.checked) (X := fun w _ => laidMetH Tryz.prog [("garret/sha.constants", Rows.laid_garret_sha_constants)] w) (fun _ _ _ hh h => h.of_heap hh) own started (by kernel_rfl) Tryz.func4
  (ChangeSpec.witness_shaped (enc := enc) (C := Tryz.checked) (os := os) (X := fun w _ => laidMetH Tryz.prog [("garret/sha.constants", Rows.laid_garret_sha_constants)] w) false (World.doorLaid Tryz.prog 400 os) #[.slice none 0 0] 8 rfl (World.shaped_of_RefB (by kernel_rfl) (by kernel_rfl)) (by kernel_rfl) (by kernel_rfl) (by kernel_rfl) (door_met os _)) ?_
 intro W base args ds gs before hval0 hW _ _ hL _
 obtain ⟨μ0, g0', S0, kg0⟩ := start0 hL
 have hval : ∀ (j : Nat) t v, Tryz.f4.params[j]? = some t → args[j]? = some v → Value.okWide Tryz.prog W .any base t v := hval0
 have hW' := hW
 obtain ⟨p, q, hA0, hV, rfl, hfz, hnd⟩ := hW
 have hA : DataW.TrodAll enc Tryz.prog W 0 (fun _ => true) true Tryz.f4.params.toList args.toList ds p := hA0
 have hA1 := hA
 rw [Tryz.params4] at hA hval hA1
 obtain ⟨v0, vs0, d0, ds0, p0, q0, hargs, rfl, rfl, h0, r0⟩ := trodAll_cons hA
 obtain ⟨rfl, rfl, rfl⟩ := trodAll_nil r0
 obtain rfl : args = #[v0] := by cases args; simp_all
 obtain ⟨rfl, rfl⟩ := trodVars_none hV
 obtain ⟨μ0, g0, c0, l0, m0, V0, R0⟩ := S0.dataL (T := Gz.shT) (d := 8) (by kernel_rfl) Tryz.underlying30 (hval 0 30 v0 rfl rfl) h0
 clear hA0 hval0
 refine (walk m0.st (kg0.chg (m0.kp) fun f => f) R0  V0).mono fun e W' ⟨he, bel⟩ => ?_
 subst he
 exact ⟨_, rfl, _, _, _, [], _, [], hW', trodAll_mk1 (shut_bool Tryz.underlying4 _), Gx.zVn_ laidOut bel (fun t ht => by
  have : t = 30 := by simpa using ht
  subst this; exact ⟨by kernel_rfl, of_decide_eq_true (by kernel_rfl)⟩) hA1, rfl, bel.frame _, fun h => by cases h⟩
theorem over : Rows.ShardGathersSaid :=
 OpenClaim.holds_of_wide 4 Tryz.f4 rfl rfl rfl rfl rfl rfl rfl ⟨rfl, rfl, rfl, rfl, rfl⟩ rfl rfl rfl rfl rfl (by kernel_rfl) Tryz.func4 (by kernel_rfl)
  (of_decide_eq_true (by kernel_rfl)) (by unfold Func.isWrapper; first | (rw [if_pos (by decide +kernel)]; kernel_rfl) | (rw [if_neg (by decide +kernel)]; exact ⟨rfl, rfl⟩))
  (fun os started H enc _ => lifted os started H enc)
theorem proved : Rows.ShardGathersCardSaid :=
 Claim7.holds_tied_plain_at .later [] [.data] true (true, "ad0db85a4f93e46cfc38050239f1b3f1af0d586c4dcc3a65d2ee144d4202a179") false
  over (fun _ h => by cases h) (by kernel_rfl) (fun _ h => by cases h) shardGathers_row_tie rfl ⟨rfl, rfl⟩ (by kernel_rfl) rfl
  (fun f fn hf hfn => by
   obtain rfl : f = 4 := Option.some.inj ((show Tryz.prog.funcNamed Rows.shardGathersRow.func = some 4 by kernel_rfl).symm.trans hf) |>.symm
   obtain rfl : fn = Tryz.f4 := (Option.some.inj (Tryz.func4.symm.trans hfn)).symm
   exact ⟨by kernel_rfl, fun j t ht => by
    rw [Tryz.params4] at ht
    have hm : t ∈ [30] := by simpa using Array.mem_of_getElem? ht
    have hall : ([30].all fun u => !Tryz.prog.wantsStandIn u) = true := by kernel_rfl
    exact (show Tryz.prog.wantsStandIn t = false by simpa using List.all_eq_true.1 hall t hm)⟩)
  (by kernel_rfl)
#print axioms proved
end Go.Proofs.YtcacldakplomnaaGreatDoor.shardGathers
