import Derived.Below
import Derived.Lib.Repeat
import Derived.Lib.Join
import Derived.Laws.BitsLemmas
import Derived.SizedLaws
import Derived.SliceStrings
import Derived.ChangeSlices
import Derived.ChangeOld
import Derived.Carry
import Derived.OpenShut
import Derived.ShutString
import Derived.DataReads
import Derived.Test.YtcacldakplomnaaGreatGx2
namespace Gx
open Go
section
variable {G : Nat} {P : Program} {R : Type} {r : R} {C : CallF}
def FnD (P : Program) (G : Nat) (g : FuncId) (args : List Value) (h : AHeap) (v : Value) (h' : AHeap) : Prop :=
 h.next ≤ h'.next ∧ ∀ (μ : BMap) (w : World) (args' : List Value), Sim G μ h w → Zed μ h.next h'.next → VRs μ args args' →
  (callFunc g ⟨args'⟩).run P w = .ok (.enter g ⟨args'⟩) w ∧ ∀ u, CallsD P g ⟨args'⟩ u w fun e u' w' => u' = u ∧ ∃ v', e = .returned v' ∧ ∃ μ', VR μ' v v' ∧ Step G μ h w μ' h' w'
def EntD (P : Program) (G : Nat) (e : Ent) : Prop :=
 ∀ (R : Type) (args : List Value) (h : AHeap) (κ : Value → AHeap → Option R) (r : R), e.run R args h κ = some r → ∃ v h', κ v h' = some r ∧ FnD P G e.id args h v h'
theorem fnD_of {fn : Func} {g : FuncId} {c : Code} {rc : RCode} {rs : Slots} {cs : List (Option LTy)} {k : Nat} {args : List Value} {h h' : AHeap} {x : TupT rs} (hC : CSound P G C) (hf : P.funcs[g]? = some fn) (hb : fn.body = some c)
  (hname : (fn.name == "runtime.NumGoroutine") = false) (hcode : rcodeOf P G fn.ntmps c = some (strip rc)) (hres : resOk P fn.results.toList rs cs = true) (hd : denF C k rc rs cs args h = some (x, h')) :
  FnD P G g args h (retV (encT rs x)) h' := by
 unfold denF at hd
 obtain ⟨e, f', h1, hk, hn, hrun⟩ := den_sound hC rc c (argFr args) h _ _ hcode hd
 have hex : (e = .normal ∨ e = .ret) ∧ resT rs cs f' h1 (fun x => some (x, h1)) = some (x, h') := by
  cases e with
  | normal => exact ⟨.inl rfl, hk⟩
  | ret => exact ⟨.inr rfl, hk⟩
  | exit i => simp at hk
 obtain ⟨he, hk⟩ := hex
 obtain ⟨x', hx', hR⟩ := resT_some hk
 simp only [Option.some.injEq, Prod.mk.injEq] at hx'
 obtain ⟨rfl, rfl⟩ := hx'
 refine ⟨hn, fun μ w args' s z hv => ⟨?_, fun u => ?_⟩⟩
 ·have hne : ¬ fn.name = "runtime.NumGoroutine" := by simpa using hname
  simp [callFunc, hf, hne, hb]
 ·refine callsD_of_wp hf hb (R := fun e w' => ∃ v', e = .returned v' ∧ ∃ μ', VR μ' (retV (encT rs x')) v' ∧ Step G μ h w μ' h1 w') (wp_mono (hrun (ds := []) μ _ w ⟨s, fun t v ht => ?_, rfl, ?_⟩ z) ?_)
  ·simp only [argFr] at ht
   obtain ⟨v', q1, q2⟩ := hv.get ht
   have hlt : t < args'.length := (List.getElem?_eq_some_iff.1 q1).1
   rw [Array.getD_eq_getD_getElem?, Array.getElem?_append_left (by simpa using hlt)]
   have : (⟨args'⟩ : Array Value)[t]? = some v' := by simpa using q1
   rw [this]; exact q2
  ·simp; omega
  ·rintro y a1 w1 ⟨rfl, μ1, at1, st⟩
   obtain ⟨v', r1, r2⟩ := run_results (P := P) hres at1.fr at1.sim hR
   have : bodyPost P fn (fun e w' => ∃ v', e = .returned v' ∧ ∃ μ', VR μ' (retV (encT rs x')) v' ∧ Step G μ h w μ' h1 w') .ret a1 w1 := ⟨at1.df, v', r1, v', rfl, μ1, r2, st⟩
   rcases he with rfl | rfl
   ·exact this
   ·exact this
theorem entOf_okD {fn : Func} {id : FuncId} {rc : RCode} {ps rs : Slots} {cs : List (Option LTy)} {k : Nat} {f : FnL ps (AHeap → Option (TupT rs × AHeap))} (hC : CSound P G C) (hf : P.funcs[id]? = some fn)
  (hname : (fn.name == "runtime.NumGoroutine") = false) (hcode : fn.body.bind (rcodeOf P G fn.ntmps) = some (strip rc)) (hres : resOk P fn.results.toList rs cs = true)
  (hrfl : curF ps (fun args h => denF C k rc rs cs args h) = f) : EntD P G (entOf id ps rs f) := by
 cases hb : fn.body with
 | none => rw [hb] at hcode; cases hcode
 | some c =>
  rw [hb] at hcode
  intro R args h κ r hr
  simp only [entOf, Option.bind_eq_some_iff] at hr
  obtain ⟨⟨x, h'⟩, hx, hk⟩ := hr
  rw [← hrfl] at hx
  exact ⟨_, h', hk, fnD_of hC hf hb hname hcode hres (appA_cur hx)⟩
theorem wpOps_append {ops : Array Oper} {Q : Exit → Act → World → Prop} {K : Act → World → Prop} {l2 : List Nat} (hK : ∀ a w, K a w → wpOps P ops Q l2 a w) : ∀ (l1 : List Nat) (a : Act) (w : World),
  wpOps P ops (fun x a w => x = Exit.normal ∧ K a w) l1 a w → wpOps P ops Q (l1 ++ l2) a w
 | [], a, w, h => hK _ _ h.2
 | i :: l, a, w, h => by
  rw [wpOps_cons] at h
  rw [List.cons_append, wpOps_cons]
  have ih := wpOps_append hK l
  unfold wpOp at h ⊢
  split
  ·rename_i ho; rw [ho] at h; exact ih _ _ h
  ·rename_i o ho
   rw [ho] at h
   simp only at h
   split
   ·rename_i hw
    rw [if_pos hw] at h
    rcases h with h | ⟨h1, a', w', h2, _⟩
    ·left
     unfold Oper.wp at h ⊢
     generalize (execOp a.eval o).run P w = res at h
     cases res with
     | ok x w' =>
      cases x <;> simp only [Oper.upon] at h ⊢ <;> first
       | exact ih _ _ h
       | exact Calls.mono h (fun e w'' he => by cases e <;> first | exact ih _ _ he | exact absurd he.1 (by simp) | (obtain ⟨a', w', h2, _⟩ := he; cases h2))
       | exact Rows.mono h (fun v w'' hv => ih _ _ hv)
     | halt x w' => cases x <;> simp only [Oper.upon] at h ⊢ <;> exact absurd h.1 (by simp)
    ·cases h2
   ·rename_i hw; rw [if_neg hw] at h; exact ih _ _ h
theorem region_defer {n id : Nat} {ops : Array Oper} {pre : List Oper} {od : Oper} {g : FuncId} {args : Array Operand} {aty : Array TypeId} {ros : List RO} {f : PFr} {h : AHeap} {κ : PFr → AHeap → Option R} (hC : CSound P G C) (hsplit : ops.toList = pre ++ [od])
  (hod : od.op = .defer ⟨.value (.func g), args, aty⟩) (hgd : od.guard = none) (hdst : od.dst = none) (hros : rosOf P G n ops pre = some (ros.map stripO)) (hG : opsG G args.toList = true) (hd : dops C ros f h κ = some r) :
  ∃ f' h', κ f' h' = some r ∧ h.next ≤ h'.next ∧ ∀ vs, evs f' args.toList = some vs → ∀ (ds : List Deferred) (μ : BMap) (a : Act) (w : World), At ds G μ f h n a w → Zed μ h.next h'.next →
   (Code.region id ops false).wp P (fun x a' w' => x = Exit.normal ∧ ∃ μ' vs', VRs μ' vs vs' ∧ At (⟨.fn (.func g) #[], ⟨vs'⟩⟩ :: ds) G μ' f' h' n a' w' ∧ Step G μ h w μ' h' w') a w := by
 have hsz : ops.size = pre.length + 1 := by rw [← Array.length_toList, hsplit]; simp
 have hlast : ops[pre.length]? = some od := by rw [← Array.getElem?_toList, hsplit]; simp
 obtain ⟨f', h', hk, hn, hrun⟩ := dops_sound hC (n := n) (ops := ops) pre (List.range pre.length) ros f h κ (by simp) (fun i o hi => by
  have hlt : i < pre.length := (List.getElem?_eq_some_iff.1 hi).1
  refine ⟨i, by simp [hlt], ?_⟩
  rw [← Array.getElem?_toList, hsplit, List.getElem?_append_left hlt]; exact hi) hros hd
 refine ⟨f', h', hk, hn, fun vs hvs ds μ a w t z => wp_region ?_⟩
 rw [hsz, List.range_succ]
 refine wpOps_append (K := fun a' w' => ∃ μ', At ds G μ' f' h' n a' w' ∧ Step G μ h w μ' h' w') (fun a' w' ⟨μ', t', st⟩ => ?_) _ _ _ (hrun μ a w t z)
 rw [wpOps_cons]
 unfold wpOp
 rw [hlast]
 simp only [Region.wanted, hgd, if_true]
 left
 have hv := evs_ok t'.sim t'.fr hvs hG
 have hx : (execOp a'.eval od).run P w' = .ok (.defer ⟨.fn (.func g) #[], ⟨args.toList.map a'.eval⟩⟩) w' := by
  obtain ⟨dst, op, ty, pos, af, gd⟩ := od
  simp only at hod
  subst hod
  simp [execOp, resolve, Act.eval, Deferred.ofValue]
  apply Array.ext'; simp
 unfold Oper.wp
 rw [hx, Oper.upon_defer, hdst]
 refine ⟨rfl, μ', _, hv, ⟨t'.sim, t'.fr, ?_, t'.sz⟩, st⟩
 simp [Act.put, t'.df]
structure OnceC where
 id : FuncId
 ro0 : List RO
 ro1 : List RO
 g1 : FuncId
 a1 : List Operand
 ro2 : List RO
 t : Nat
 ro3 : List RO
 g2 : FuncId
 a2 : List Operand
 ro4 : List RO
def onceF {R : Type} (C : CallF) (o : OnceC) (D1 D2 : Ent) (args : List Value) (h : AHeap) (κ : Value → AHeap → Option R) : Option R :=
 dops C o.ro0 (argFr args) h fun f h => dops C o.ro1 f h fun f h => (evs f o.a1).bind fun vs1 => dops C o.ro2 f h fun f h => match f o.t with
  | some (.bool b) => if b = true then dops C o.ro3 (pset f o.t (.bool true)) h fun f h => (evs f o.a2).bind fun vs2 => dops C o.ro4 f h fun _ h => D2.run R vs2 h fun _ h => D1.run R vs1 h fun _ h => κ (.tuple ⟨[]⟩) h else none
  | _ => none
def eOnce (C : CallF) (o : OnceC) (D1 D2 : Ent) : Ent := ⟨o.id, fun _ args h κ => onceF C o D1 D2 args h κ⟩
structure OnceFits (P : Program) (G : Nat) (fn : Func) (o : OnceC) : Prop where
 ex : ∃ (i0 i1 i2 i3 i4 : Nat) (p0 p1 p2 p3 p4 : Array Oper) (pre1 pre3 : List Oper) (d1 d3 : Oper) (b1 b3 : Array Operand) (t1 t3 : Array TypeId),
  fn.body = some (.seq (.region i0 p0 false) (.seq (.region i1 p1 false) (.seq (.region i2 p2 false) (.cond (.tmp o.t) (.seq (.region i3 p3 false) (.region i4 p4 false)) .skip)))) ∧
  rosOf P G fn.ntmps p0 p0.toList = some (o.ro0.map stripO) ∧ rosOf P G fn.ntmps p2 p2.toList = some (o.ro2.map stripO) ∧ rosOf P G fn.ntmps p4 p4.toList = some (o.ro4.map stripO) ∧
  p1.toList = pre1 ++ [d1] ∧ d1.op = .defer ⟨.value (.func o.g1), b1, t1⟩ ∧ d1.guard = none ∧ d1.dst = none ∧ rosOf P G fn.ntmps p1 pre1 = some (o.ro1.map stripO) ∧ opsG G b1.toList = true ∧ b1.toList = o.a1 ∧
  p3.toList = pre3 ++ [d3] ∧ d3.op = .defer ⟨.value (.func o.g2), b3, t3⟩ ∧ d3.guard = none ∧ d3.dst = none ∧ rosOf P G fn.ntmps p3 pre3 = some (o.ro3.map stripO) ∧ opsG G b3.toList = true ∧ b3.toList = o.a2
theorem dops_all {n id : Nat} {ops : Array Oper} {ros : List RO} {f : PFr} {h : AHeap} {κ : PFr → AHeap → Option R} (hC : CSound P G C) (hros : rosOf P G n ops ops.toList = some (ros.map stripO)) (hd : dops C ros f h κ = some r) :
  ∃ f' h', κ f' h' = some r ∧ RunS P G n (.region id ops false) f h .normal f' h' := by
 obtain ⟨f', h', hk, hn, hrun⟩ := dops_sound hC (n := n) (ops := ops) ops.toList (List.range ops.size) ros f h κ (by simp) (fun i o hi => by
  have hlt : i < ops.size := by simpa using (List.getElem?_eq_some_iff.1 hi).1
  exact ⟨i, by simp [hlt], by simpa using hi⟩) hros hd
 exact ⟨f', h', hk, hn, fun μ a w t z => wp_region (wpOps_mono (fun x a' w' ⟨e, q⟩ => ⟨e, q⟩) _ _ _ (hrun μ a w t z))⟩
theorem once_ok {fn : Func} {o : OnceC} {D1 D2 : Ent} (hC : CSound P G C) (hf : P.funcs[o.id]? = some fn) (hname : (fn.name == "runtime.NumGoroutine") = false) (hres : fn.results.toList.isEmpty = true) (fits : OnceFits P G fn o)
  (h1 : EntD P G D1) (h2 : EntD P G D2) (e1 : D1.id = o.g1) (e2 : D2.id = o.g2) : EntOk P G (eOnce C o D1 D2) := by
 intro R args h κ r hr
 obtain ⟨i0, i1, i2, i3, i4, p0, p1, p2, p3, p4, pre1, pre3, d1, d3, b1, b3, t1, t3, hb, r0, r2, r4, s1, q1, u1, v1, w1, x1, y1, s3, q3, u3, v3, w3, x3, y3⟩ := fits.ex
 simp only [eOnce, onceF] at hr
 obtain ⟨f0, h0, hk0, n0, run0⟩ := dops_all (id := i0) hC r0 hr
 obtain ⟨f1, hh1, hk1, n1, run1⟩ := region_defer (id := i1) hC s1 q1 u1 v1 w1 x1 hk0
 rw [y1] at run1
 rw [Option.bind_eq_some_iff] at hk1
 obtain ⟨vs1, hv1, hk1⟩ := hk1
 obtain ⟨f2, hh2, hk2, n2, run2⟩ := dops_all (id := i2) hC r2 hk1
 split at hk2
 ·rename_i b hbt
  split at hk2
  ·rename_i hb1; subst hb1
   rw [pset_self hbt] at hk2
   obtain ⟨f3, hh3, hk3, n3, run3⟩ := region_defer (id := i3) hC s3 q3 u3 v3 w3 x3 hk2
   rw [y3] at run3
   rw [Option.bind_eq_some_iff] at hk3
   obtain ⟨vs2, hv2, hk3⟩ := hk3
   obtain ⟨f4, hh4, hk4, n4, run4⟩ := dops_all (id := i4) hC r4 hk3
   obtain ⟨z5, hh5, hk5, n5, run5⟩ := h2 R _ _ _ r hk4
   obtain ⟨z6, hh6, hk6, n6, run6⟩ := h1 R _ _ _ r hk5
   rw [e2] at run5
   rw [e1] at run6
   refine ⟨_, hh6, hk6, by omega, fun μ w args' s z hv oo a next Q hnext => ?_⟩
   have hcall : (callFunc o.id ⟨args'⟩).run P w = .ok (.enter o.id ⟨args'⟩) w := by
    have hne : ¬ fn.name = "runtime.NumGoroutine" := by simpa using hname
    simp [callFunc, hf, hne, hb]
   show Oper.upon P oo a next Q (Sem.run P (callFunc o.id ⟨args'⟩) w)
   rw [hcall, Oper.upon_enter]
   refine calls_of_wp_defers hf hb ?_
   have at0 : At [] G μ (argFr args) h fn.ntmps { tmps := (⟨args'⟩ : Array Value) ++ Array.replicate (fn.ntmps - (⟨args'⟩ : Array Value).size) undef, defers := [] } w := ⟨s, fun t v ht => by
     simp only [argFr] at ht
     obtain ⟨v', q1, q2⟩ := hv.get ht
     have hlt : t < args'.length := (List.getElem?_eq_some_iff.1 q1).1
     rw [Array.getD_eq_getD_getElem?, Array.getElem?_append_left (by simpa using hlt)]
     have : (⟨args'⟩ : Array Value)[t]? = some v' := by simpa using q1
     rw [this]; exact q2, rfl, by simp; omega⟩
   have z' : Zed μ h.next hh6.next := z
   have mono : ∀ {m m' : Nat} {μ : BMap} {p : Nat}, Zed μ p m' → m ≤ m' → Zed μ p m := fun z hle b hb1 hb2 => z b hb1 (by omega)
   refine wp_seq (wp_mono (run0 μ _ w at0 (mono z' (by omega))) ?_)
   rintro x a0 w0 ⟨rfl, μ0, at0, st0⟩
   have z0 := st0.zed z'
   refine wp_seq (wp_mono (run1 vs1 hv1 [] μ0 a0 w0 at0 (mono z0 (by omega))) ?_)
   rintro x a1 w1 ⟨rfl, μ1, cs1, hcs1, at1, st1⟩
   have z1 := st1.zed z0
   refine wp_seq (wp_mono (run2 μ1 a1 w1 at1 (mono z1 (by omega))) ?_)
   rintro x a2 w2 ⟨rfl, μ2, at2, st2⟩
   have z2 := st2.zed z1
   have hev : a2.eval (.tmp o.t) = .bool true := vr_bool (at2.fr _ _ hbt)
   refine wp_cond hev ?_
   refine wp_seq (wp_mono (run3 vs2 hv2 _ μ2 a2 w2 at2 (mono z2 (by omega))) ?_)
   rintro x a3 w3 ⟨rfl, μ3, cs2, hcs2, at3, st3⟩
   have z3 := st3.zed z2
   refine wp_mono (run4 μ3 a3 w3 at3 (mono z3 (by omega))) ?_
   rintro x a4 w4 ⟨rfl, μ4, at4, st4⟩
   have z4 := st4.zed z3
   show Leaves P fn a4.tmps _ a4.defers .returning w4
   rw [at4.df]
   have hcs2' := hcs2.mono (st4.le (mono z3 (by omega)))
   obtain ⟨k1, k2⟩ := run5 μ4 w4 cs2 at4.sim (mono z4 (by omega)) hcs2'
   refine leaves_cons (by simp) (f := o.g2) (args := ⟨cs2⟩) ?_ ((k2 .returning).mono ?_)
   ·rw [← k1]; simp [invoke]
   rintro e u w5 ⟨rfl, v5, rfl, μ5, hv5, st5⟩
   have z5 := st5.zed z4
   have hcs1' : VRs μ5 vs1 cs1 := ((((hcs1.mono (st2.le (mono z1 (by omega)))).mono (st3.le (mono z2 (by omega)))).mono (st4.le (mono z3 (by omega)))).mono (st5.le (mono z4 (by omega))))
   obtain ⟨k3, k4⟩ := run6 μ5 w5 cs1 st5.sim z5 hcs1'
   show Leaves P fn a4.tmps _ _ .returning w5
   refine leaves_cons (by simp) (f := o.g1) (args := ⟨cs1⟩) ?_ ((k4 .returning).mono ?_)
   ·rw [← k3]; simp [invoke]
   rintro e u w6 ⟨rfl, v6, rfl, μ6, hv6, st6⟩
   have hr0 : fn.results = #[] := by
    apply Array.ext'
    simpa using hres
   refine ⟨.tuple #[], by simp [results, hr0], ?_⟩
   exact hnext _ _ ⟨μ6, .unit, st0.trans (st1.trans (st2.trans (st3.trans (st4.trans (st5.trans st6)))))⟩
  ·cases hk2
 ·cases hk2
def deferOf (P : Program) (G n : Nat) (ops : Array Oper) : Option (List RO × FuncId × List Operand) :=
 match ops.toList.reverse with
 | [] => none
 | d :: pre => match d.op, d.guard, d.dst with
  | .defer ⟨.value (.func g), b, _⟩, none, none => if opsG G b.toList = true then (rosOf P G n ops pre.reverse).map fun ro => (ro, g, b.toList) else none
  | _, _, _ => none
def onceOf (P : Program) (G n : Nat) (id : FuncId) (c : Code) : Option OnceC :=
 match c with
 | .seq (.region _ p0 false) (.seq (.region _ p1 false) (.seq (.region _ p2 false) (.cond (.tmp t) (.seq (.region _ p3 false) (.region _ p4 false)) .skip))) =>
  (rosOf P G n p0 p0.toList).bind fun r0 => (deferOf P G n p1).bind fun r1 => (rosOf P G n p2 p2.toList).bind fun r2 => (deferOf P G n p3).bind fun r3 => (rosOf P G n p4 p4.toList).bind fun r4 =>
   some ⟨id, r0, r1.1, r1.2.1, r1.2.2, r2, t, r3.1, r3.2.1, r3.2.2, r4⟩
 | _ => none
def stripOnce (o : OnceC) : OnceC := ⟨o.id, o.ro0.map stripO, o.ro1.map stripO, o.g1, o.a1, o.ro2.map stripO, o.t, o.ro3.map stripO, o.g2, o.a2, o.ro4.map stripO⟩
theorem deferOf_some {n : Nat} {ops : Array Oper} {x : List RO × FuncId × List Operand} (h : deferOf P G n ops = some x) :
  ∃ (pre : List Oper) (d : Oper) (b : Array Operand) (t : Array TypeId), ops.toList = pre ++ [d] ∧ d.op = .defer ⟨.value (.func x.2.1), b, t⟩ ∧ d.guard = none ∧ d.dst = none ∧ rosOf P G n ops pre = some x.1 ∧ opsG G b.toList = true ∧ b.toList = x.2.2 := by
 unfold deferOf at h
 split at h
 ·cases h
 ·rename_i d pre hrev
  split at h
  ·rename_i g b t hop hgd hds
   split at h
   ·rename_i hG
    simp only [Option.map_eq_some_iff] at h
    obtain ⟨ro, hro, rfl⟩ := h
    refine ⟨pre.reverse, d, b, t, ?_, hop, hgd, hds, hro, hG, rfl⟩
    have := congrArg List.reverse hrev
    simpa using this
   ·cases h
  ·cases h
theorem onceOf_some {fn : Func} {o : OnceC} (h : fn.body.bind (onceOf P G fn.ntmps o.id) = some (stripOnce o)) : OnceFits P G fn o := by
 rw [Option.bind_eq_some_iff] at h
 obtain ⟨c, hb, h⟩ := h
 unfold onceOf at h
 split at h
 ·rename_i i0 p0 i1 p1 i2 p2 t i3 p3 i4 p4
  simp only [Option.bind_eq_some_iff, Option.some.injEq, stripOnce, OnceC.mk.injEq, true_and] at h
  obtain ⟨r0, h0, r1, h1, r2, h2, r3, h3, r4, h4, e0, e1, eg1, ea1, e2, et, e3, eg2, ea2, e4⟩ := h
  obtain ⟨pre1, d1, b1, t1, x1⟩ := deferOf_some h1
  obtain ⟨pre3, d3, b3, t3, x3⟩ := deferOf_some h3
  rw [e1, eg1, ea1] at x1
  rw [e3, eg2, ea2] at x3
  subst et
  refine ⟨⟨i0, i1, i2, i3, i4, p0, p1, p2, p3, p4, pre1, pre3, d1, d3, b1, b3, t1, t3, hb, by rw [h0, e0], by rw [h2, e2], by rw [h4, e4], x1.1, x1.2.1, x1.2.2.1, x1.2.2.2.1, x1.2.2.2.2.1, x1.2.2.2.2.2.1, x1.2.2.2.2.2.2, x3⟩⟩
 ·cases h
theorem entOk_unit {e : Ent} {ps : Slots} {f : FnL ps (AHeap → Option (Unit × AHeap))} (he : EntOk P G e) (hrfl : curF ps (fun args h => e.run (Unit × AHeap) args h fun v h => match v with | .tuple ⟨[]⟩ => some ((), h) | _ => none) = f) :
  EntOk P G (entOf e.id ps [] f) := by
 intro R args h κ r hr
 simp only [entOf, Option.bind_eq_some_iff] at hr
 obtain ⟨⟨x, h'⟩, hx, hk⟩ := hr
 rw [← hrfl] at hx
 obtain ⟨v, h1, hv, hF⟩ := he _ _ _ _ _ (appA_cur hx)
 split at hv
 ·cases hv
  exact ⟨_, _, hk, hF⟩
 ·cases hv
end
end Gx
namespace Gx
open Go Go.RowKit
section
variable {G : Nat} {P : Program}
theorem Step.belowX {μ : BMap} {h : AHeap} {w w' : World} (s : Sim G μ h w) (b : Below w.heap.size w w') : Step G μ h w μ h w' where
 sim := by
  refine ⟨fun x B hx => ?_, s.inj, s.lt, s.glob, s.gle⟩
  obtain ⟨c, d, z, O, hm, hO, hr⟩ := s.blk x B hx
  exact ⟨c, d, z, O, hm, by rw [b.block c (Array.getElem?_eq_some_iff.1 hO).1]; exact hO, hr⟩
 nx := Nat.le_refl _
 same := fun _ _ => rfl
 os := b.os
 tape := b.tape
 output := b.output
 size := b.size
 old := fun c hc _ => b.block c hc
 img := fun x B p hb hn _ => absurd (s.lt x B hb) (by omega)
 keep := fun x B' hb _ => ⟨B', hb, id⟩
theorem fnS_calls {g : FuncId} {fn : Func} {c : Code} {args : List Value} {h : AHeap} {v : Value} (hf : P.funcs[g]? = some fn) (hb : fn.body = some c) (hname : (fn.name == "runtime.NumGoroutine") = false)
  (k : ∀ (μ : BMap) (w : World) (args' : List Value), Sim G μ h w → VRs μ args args' → ∃ v', VR μ v v' ∧ Calls P g ⟨args'⟩ w fun e w' => e = .returned v' ∧ Below w.heap.size w w') : FnS P G g args h v h := by
 refine ⟨Nat.le_refl _, fun μ w args' s _ hv o a next Q hnext => ?_⟩
 have hcall : (callFunc g ⟨args'⟩).run P w = .ok (.enter g ⟨args'⟩) w := by
  have hne : ¬ fn.name = "runtime.NumGoroutine" := by simpa using hname
  simp [callFunc, hf, hne, hb]
 rw [hcall, Oper.upon_enter]
 obtain ⟨v', hv', hc⟩ := k μ w args' s hv
 refine hc.mono ?_
 rintro e w' ⟨rfl, hbw⟩
 exact hnext v' w' ⟨μ, hv', Step.belowX s hbw⟩
def repB (s : ByteArray) (n : Nat) : ByteArray := ⟨(Lib.repeatL s.data.toList n).toArray⟩
def repeatA (s : ByteArray) (c : Int) : Option ByteArray := if 0 ≤ c ∧ c ≤ 9223372036854775807 ∧ s.size * c.toNat ≤ 140737488355328 then some (repB s c.toNat) else none
def eRepeat (id : FuncId) : Ent := ⟨id, fun _ args h κ => match args with
 | [.string s, .int k c] => bif decide (k = .i64) then (repeatA s c).bind fun t => κ (.string t) h else none
 | _ => none⟩
theorem repeat_ok {f : FuncId} {fn : Func} {c : Code} (hf : P.funcs[f]? = some fn) (hb : fn.body = some c) (hname : (fn.name == "runtime.NumGoroutine") = false)
  (hc : ∀ (s : ByteArray) (n : Nat) (w : World), n ≤ 9223372036854775807 → s.size * n ≤ 140737488355328 → Calls P f #[.string s, .int .i64 n] w fun e w' => e = .returned (.string ⟨(Lib.repeatL s.data.toList n).toArray⟩) ∧ Below w.heap.size w w') : EntOk P G (eRepeat f) := by
 intro R args h κ r hr
 simp only [eRepeat] at hr
 split at hr
 ·rename_i s k n
  cases hk : decide (k = IntKind.i64) with
  | false => rw [hk] at hr; cases hr
  | true =>
   rw [hk, cond_true] at hr
   have hk := of_decide_eq_true hk
   subst hk
   simp only [Option.bind_eq_some_iff] at hr
   obtain ⟨t, ht, hr⟩ := hr
   unfold repeatA at ht
   split at ht
   ·rename_i hg
    cases ht
    refine ⟨_, h, hr, fnS_calls hf hb hname fun μ w args' s' hv => ⟨_, .str _, ?_⟩⟩
    obtain ⟨v1, v2, rfl, h1, h2⟩ := hv.two_inv
    have e1 : v1 = .string s := by cases h1; rfl
    have e2 := vr_int h2
    subst e1; subst e2
    have := hc s n.toNat w (by omega) hg.2.2
    rw [Int.toNat_of_nonneg hg.1] at this
    exact this
   ·cases ht
 ·cases hr
def unstrs : List Value → Option (List ByteArray)
 | [] => some []
 | .string s :: l => match unstrs l with
  | some t => some (s :: t)
  | none => none
 | _ => none
theorem unstrs_eq : ∀ {l : List Value} {xs : List ByteArray}, unstrs l = some xs → l = xs.map Value.string
 | [], xs, h => by simp [unstrs] at h; subst h; rfl
 | v :: l, xs, h => by
  unfold unstrs at h
  split at h
  ·rename_i e; cases e
  ·rename_i s l0 e
   cases e
   split at h
   ·rename_i t ht
    cases h
    rw [unstrs_eq ht]; rfl
   ·cases h
  ·cases h
theorem unstrs_map (xs : List ByteArray) : unstrs (xs.map Value.string) = some xs := by
 induction xs with
 | nil => rfl
 | cons x xs ih => simp [unstrs, ih]
def joinB (xs : List ByteArray) (sep : ByteArray) : ByteArray := ⟨(Lib.join (xs.map (·.data.toList)) sep.data.toList).toArray⟩
def joinA (s : Slc) (sep : ByteArray) (h : AHeap) : Option ByteArray :=
 match s.a with
 | none => none
 | some a => (h.rdL a.block a.off s.len).bind fun l => (unstrs l).bind fun xs =>
  if 1 ≤ s.len ∧ s.len ≤ s.cap ∧ s.len ≤ 140737488355328 ∧ (joinB xs sep).size ≤ 140737488355328 then some (joinB xs sep) else none
def eJoin (id : FuncId) : Ent := ⟨id, fun _ args h κ => match args with
 | [.slice a n c, .string sep] => (joinA ⟨a, n, c⟩ sep h).bind fun t => κ (.string t) h
 | _ => none⟩
theorem rdL_len {h : AHeap} {b o n : Nat} {l : List Value} (hr : h.rdL b o n = some l) (hn : n ≠ 0) : ∃ c e r fz, h.get b = some (.cells c e r fz) ∧ l = (c.drop o).take n ∧ l.length = n := by
 cases n with
 | zero => exact absurd rfl hn
 | succ n =>
  simp only [AHeap.rdL] at hr
  split at hr
  ·rename_i c e r fz hb
   split at hr
   ·rename_i hle
    cases hr
    refine ⟨c, e, r, fz, hb, rfl, ?_⟩
    simp; omega
   ·cases hr
  ·cases hr
theorem join_ok {f : FuncId} {fn : Func} {c : Code} (hf : P.funcs[f]? = some fn) (hb : fn.body = some c) (hname : (fn.name == "runtime.NumGoroutine") = false)
  (hc : ∀ (bk o c : Nat) (xs : List ByteArray) (sep : ByteArray) (w : World), (∀ (j : Nat) x, xs[j]? = some x → w.cell? ⟨bk, o + j, none⟩ = some (.string x)) → bk < w.heap.size → xs.length ≤ 140737488355328 → xs.length ≤ c →
   (Lib.join (xs.map (·.data.toList)) sep.data.toList).length ≤ 140737488355328 → Calls P f #[.slice (some ⟨bk, o, none⟩) xs.length c, .string sep] w fun e w' => e = .returned (.string ⟨(Lib.join (xs.map (·.data.toList)) sep.data.toList).toArray⟩) ∧ Below w.heap.size w w') : EntOk P G (eJoin f) := by
 intro R args h κ r hr
 simp only [eJoin] at hr
 split at hr
 ·rename_i a n cp sep
  simp only [Option.bind_eq_some_iff] at hr
  obtain ⟨t, ht, hr⟩ := hr
  unfold joinA at ht
  simp only at ht
  split at ht
  ·cases ht
  ·rename_i ad
   simp only [Option.bind_eq_some_iff] at ht
   obtain ⟨l, hl, xs, hxs, ht⟩ := ht
   split at ht
   ·rename_i hg
    cases ht
    obtain ⟨g1, g2, g3, g4⟩ := hg
    obtain ⟨cs, e, rr, fz, hb', hl', hlen⟩ := rdL_len hl (by omega)
    have hle := unstrs_eq hxs
    have hxl : xs.length = n := by rw [hle] at hlen; simpa using hlen
    refine ⟨_, h, hr, fnS_calls hf hb hname fun μ w args' s hv => ⟨_, .str _, ?_⟩⟩
    obtain ⟨v1, v2, rfl, h1, h2⟩ := hv.two_inv
    have e2 : v2 = .string sep := by cases h2; rfl
    subst e2
    cases h1 with
    | empty _ => omega
    | slice hm hcap =>
     rename_i b o cc d z m' sp
     subst hxl
     have hcap' : xs.length ≤ m' := by
      unfold capOk at hcap
      split at hcap
      ·omega
      ·omega
     refine hc cc (d + o) m' xs sep w (fun j x hj => ?_) ?_ g3 hcap' (by simpa [joinB, ByteArray.size] using g4)
     ·have hlj : l[j]? = some (.string x) := by rw [hle]; simp [hj]
      rw [hl', List.getElem?_take] at hlj
      split at hlj
      ·rw [List.getElem?_drop] at hlj
       have hrd : h.rd1 b (o + j) = some (.string x) := by unfold AHeap.rd1; rw [hb']; exact hlj
       obtain ⟨v', q1, q2⟩ := s.cell hm hrd
       have : v' = .string x := by cases q2; rfl
       rw [this, ← Nat.add_assoc] at q1
       exact q1
      ·cases hlj
     ·obtain ⟨c', d', z', O, hm', hO, _⟩ := s.blk b _ hb'
      rw [hm] at hm'; cases hm'
      exact (Array.getElem?_eq_some_iff.1 hO).1
   ·cases ht
 ·cases hr
end
end Gx
namespace Gx
open Go Go.RowKit
section
variable {G : Nat} {P : Program}
theorem FnS.calls {fn : Func} {g : FuncId} {args : List Value} {h h' : AHeap} {v : Value} (hF : FnS P G g args h v h') (hf : P.funcs[g]? = some fn) (hb : fn.body.isSome = true) (hname : (fn.name == "runtime.NumGoroutine") = false)
  {μ : BMap} {w : World} {args' : List Value} (s : Sim G μ h w) (z : Zed μ h.next h'.next) (hv : VRs μ args args') :
  Calls P g ⟨args'⟩ w fun e w' => ∃ v' μ', e = .returned v' ∧ VR μ' v v' ∧ Step G μ h w μ' h' w' := by
 have hcall : (callFunc g ⟨args'⟩).run P w = .ok (.enter g ⟨args'⟩) w := by
  have hne : ¬ fn.name = "runtime.NumGoroutine" := by simpa using hname
  obtain ⟨c, hc⟩ := Option.isSome_iff_exists.1 hb
  simp [callFunc, hf, hne, hc]
 have := hF.2 μ w args' s z hv ⟨some 0, .move (.tmp 0), 0, "", #[], none⟩ { tmps := #[undef], defers := [] }
  (fun a' w' => ∃ v' μ', a'.tmps = #[v'] ∧ VR μ' v v' ∧ Step G μ h w μ' h' w') (fun _ _ _ => False) (fun v' w' ⟨μ', h1, h2⟩ => ⟨v', μ', by simp [Act.put], h1, h2⟩)
 rw [hcall, Oper.upon_enter] at this
 refine Calls.mono this fun e w' he => ?_
 cases e with
 | returned u =>
  obtain ⟨v', μ', e, h1, h2⟩ := he
  simp [Act.put] at e
  subst e
  exact ⟨_, μ', rfl, h1, h2⟩
 | panicked ch => exact he.elim
 | outgrown => obtain ⟨_, _, hh⟩ := he; exact hh.elim
theorem Step.below {μ μ' : BMap} {h h' : AHeap} {w w' : World} (st : Step G μ h w μ' h' w') (hro : ∀ b B, h.get b = some B → B.isRW = false) : Below w.heap.size w w' :=
 ⟨st.os, st.tape, st.output, st.size, fun k hk => st.old k hk fun b B p hb hrw => by rw [hro b B hb] at hrw; cases hrw⟩
def h0 : AHeap := ⟨0, fun _ => none⟩
theorem sim0 (w : World) : Sim 0 (fun _ => none) h0 w :=
 ⟨(fun _ _ h => nomatch h), (fun _ _ _ _ _ _ h => nomatch h), (fun _ _ h => nomatch h), (fun g h => absurd h (Nat.not_lt_zero g)), Nat.le_refl _⟩
theorem law_calls {fn : Func} {g : FuncId} {e : Ent} (he : EntOk P G e) (hg : e.id = g) (hf : P.funcs[g]? = some fn) (hb : fn.body.isSome = true) (hname : (fn.name == "runtime.NumGoroutine") = false) {args : List Value} {h : AHeap}
  (hrun : e.run Bool args h (fun v _ => match v with | .bool b => some b | _ => none) = some true) {μ : BMap} {w : World} {args' : List Value} (s : Sim G μ h w) (z : ∀ b, h.next ≤ b → μ b = none) (hv : VRs μ args args') (hro : ∀ b B, h.get b = some B → B.isRW = false) :
  Calls P g ⟨args'⟩ w fun e w' => e = .returned (.bool true) ∧ Below w.heap.size w w' := by
 obtain ⟨v, h', hk, hF⟩ := he Bool args h _ true hrun
 subst hg
 refine Calls.mono (hF.calls hf hb hname s (fun b hb _ => z b hb) hv) ?_
 rintro e w' ⟨v', μ', rfl, h1, h2⟩
 refine ⟨?_, h2.below hro⟩
 split at hk
 ·cases hk; rw [vr_bool h1]
 ·cases hk
end
end Gx
namespace Gx
open Go
theorem bx (k : IntKind) (j : Nat) (hj : j ≤ k.bits) (hk : ∀ n : Int, 0 ≤ n → n < 2 ^ j → k.wrap n = n) (a b : Nat) (ha : a < 2 ^ j) (hb : b < 2 ^ j) :
  Go.bits .xor k a b = ((a ^^^ b : Nat) : Int) := by
 have hp : 2 ^ j ≤ 2 ^ k.bits := Nat.pow_le_pow_right (by decide) hj
 have ha' : a % 2 ^ k.bits = a := Nat.mod_eq_of_lt (Nat.lt_of_lt_of_le ha hp)
 have hb' : b % 2 ^ k.bits = b := Nat.mod_eq_of_lt (Nat.lt_of_lt_of_le hb hp)
 have cast : ∀ n : Nat, n < 2 ^ j → ((n : Nat) : Int) < 2 ^ j := fun n h => by exact_mod_cast h
 simp only [bits, BitVec.ofInt_natCast, BitVec.toNat_xor, BitVec.toNat_ofNat, ha', hb']
 exact hk _ (Int.natCast_nonneg _) (cast _ (Nat.xor_lt_two_pow ha hb))
theorem wraps_i64 (n : Int) (h₀ : 0 ≤ n) (h₁ : n < 2 ^ 63) : IntKind.i64.wrap n = n := by rw [Go.IntKind.wrap_i64]; omega
theorem xor64 {a b : Nat} (ha : a < 2 ^ 63) (hb : b < 2 ^ 63) : Go.bits .xor .i64 (a : Int) (b : Int) = ((a ^^^ b : Nat) : Int) := bx .i64 63 (by decide) wraps_i64 a b ha hb
theorem and64 {a b : Nat} (ha : a < 2 ^ 63) (hb : b < 2 ^ 63) : Go.bits .and .i64 (a : Int) (b : Int) = ((a &&& b : Nat) : Int) := (bits_nat .i64 63 (by decide) wraps_i64 a b ha hb).1
theorem xor8 {a b : Nat} (ha : a < 256) (hb : b < 256) : Go.bits .xor .u8 (a : Int) (b : Int) = ((a ^^^ b : Nat) : Int) := bx .u8 8 (by decide) wraps_u8 a b ha hb
theorem shr64 (b i : Nat) (hi : i ≤ 64) : Int.fdiv (b : Int) (2 ^ (min (i : Int).toNat (IntKind.bits .i64))) = ((b / 2 ^ i : Nat) : Int) := by
 have : min (i : Int).toNat (IntKind.bits .i64) = i := by
  show min i 64 = i
  omega
 rw [this, Int.fdiv_eq_ediv_of_nonneg _ (Int.pow_nonneg (by decide))]
 simp
theorem bit64 {b i : Nat} (hi : i ≤ 64) (hb : b < 2 ^ 63) : Go.bits .and .i64 (Int.fdiv (b : Int) (2 ^ (min (i : Int).toNat (IntKind.bits .i64)))) 1 = if b.testBit i then 1 else 0 := by
 rw [shr64 b i hi]
 have h1 : b / 2 ^ i < 2 ^ 63 := Nat.lt_of_le_of_lt (Nat.div_le_self _ _) hb
 have := and64 (a := b / 2 ^ i) (b := 1) h1 (by decide)
 rw [show ((1 : Nat) : Int) = 1 from rfl] at this
 rw [this, Nat.and_one_is_mod, Nat.testBit_eq_decide_div_mod_eq]
 rcases Nat.mod_two_eq_zero_or_one (b / 2 ^ i) with h | h <;> simp [h]
theorem shl64 {a i : Nat} (hi : i ≤ 64) (h : a * 2 ^ i < 2 ^ 63) : IntKind.wrap .i64 ((a : Int) * 2 ^ (min (i : Int).toNat (IntKind.bits .i64))) = ((a * 2 ^ i : Nat) : Int) := by
 have : min (i : Int).toNat (IntKind.bits .i64) = i := by
  show min i 64 = i
  omega
 rw [this]
 have e : (a : Int) * 2 ^ i = ((a * 2 ^ i : Nat) : Int) := by simp
 rw [e]
 exact wraps_i64 _ (Int.natCast_nonneg _) (by exact_mod_cast h)
end Gx
namespace Gx
open Go
theorem bnd {α β : Type} {x : Option α} {f : α → Option β} {v : α} {r : Option β} (h : x = some v) (k : f v = r) : x.bind f = r := by rw [h]; exact k
theorem jn {α R : Type} {j : α} {b : α → R} {r : R} (k : b j = r) : joinK j b = r := k
theorem ifp {α : Type} {c : Prop} [Decidable c] {a b r : α} (h : c) (k : a = r) : (if c then a else b) = r := by rw [if_pos h]; exact k
theorem ifn {α : Type} {c : Prop} [Decidable c] {a b r : α} (h : ¬ c) (k : b = r) : (if c then a else b) = r := by rw [if_neg h]; exact k
theorem gp {R : Type} {p : Prop} {x r : Option R} (h : p) (k : x = r) : guardP p x = r := by rw [guardP_true h]; exact k
theorem iterK_add {α : Type} (bot : α) (b : α → α) (n : Nat) : ∀ m, iterK bot (m + n) b = iterK (iterK bot n b) m b
 | 0 => by rw [Nat.zero_add]; rfl
 | m + 1 => by rw [Nat.succ_add]; simp only [iterK]; rw [iterK_add bot b n m]
theorem iterK_of {α : Type} (bot : α) (b : α → α) {k m : Nat} (h : m ≤ k) : ∃ bot', iterK bot k b = iterK bot' m b := by
 obtain ⟨n, rfl⟩ : ∃ n, k = m + n := ⟨k - m, by omega⟩
 exact ⟨_, iterK_add bot b n m⟩
theorem iterK_s {α : Type} (bot : α) (b : α → α) (m : Nat) : iterK bot (m + 1) b = b (iterK bot m b) := rfl
theorem w64 (x : Int) (h : -9223372036854775808 ≤ x ∧ x < 9223372036854775808) : IntKind.wrap .i64 x = x := by
 rw [Go.IntKind.wrap_i64]; omega
theorem w8 (x : Int) (h : 0 ≤ x ∧ x < 256) : IntKind.wrap .u8 x = x := by
 rw [Go.IntKind.wrap_u8]; omega
structure Chg (S : Nat → Prop) (h h' : AHeap) : Prop where
 nx : h.next ≤ h'.next
 oth : ∀ x, x < h.next → ¬ S x → h'.get x = h.get x
theorem Chg.refl (S : Nat → Prop) (h : AHeap) : Chg S h h := ⟨Nat.le_refl _, fun _ _ _ => rfl⟩
theorem Chg.trans {S : Nat → Prop} {h h1 h2 : AHeap} (a : Chg S h h1) (c : Chg S h1 h2) : Chg S h h2 :=
 ⟨Nat.le_trans a.nx c.nx, fun x hx hs => (c.oth x (Nat.lt_of_lt_of_le hx a.nx) hs).trans (a.oth x hx hs)⟩
theorem Chg.new {S : Nat → Prop} (h : AHeap) (B : ABlk) : Chg S h (h.new B) := ⟨by simp, fun x hx _ => by simp; omega⟩
theorem Chg.set {S : Nat → Prop} {h : AHeap} {b : Nat} {B : ABlk} (hb : h.next ≤ b ∨ S b) : Chg S h (h.set b B) :=
 ⟨by simp, fun x hx hs => by
  simp only [AHeap.get_set]
  rw [if_neg]
  rintro rfl
  rcases hb with hb | hb
  ·omega
  ·exact hs hb⟩
theorem Chg.wk {S T : Nat → Prop} {h h' : AHeap} (a : Chg S h h') (st : ∀ x, x < h.next → S x → T x) : Chg T h h' := ⟨a.nx, fun x hx ht => a.oth x hx fun hs => ht (st x hx hs)⟩
theorem Chg.beh {S T : Nat → Prop} {h h1 h2 : AHeap} (a : Chg S h h1) (c : Chg T h1 h2) (st : ∀ x, x < h.next → T x → S x) : Chg S h h2 :=
 ⟨Nat.le_trans a.nx c.nx, fun x hx hs => (c.oth x (Nat.lt_of_lt_of_le hx a.nx) fun ht => hs (st x hx ht)).trans (a.oth x hx hs)⟩
def NoB (_ : Nat) : Prop := False
abbrev Keeps (h h' : AHeap) : Prop := Chg NoB h h'
theorem Keeps.new (h : AHeap) (B : ABlk) : Keeps h (h.new B) := Chg.new h B
theorem Chg.keeps {S : Nat → Prop} {h h' : AHeap} (a : Keeps h h') : Chg S h h' := a.wk fun _ _ f => False.elim f
theorem set_set (h : AHeap) (b : Nat) (B C : ABlk) : (h.set b B).set b C = h.set b C := by
 simp only [AHeap.set, AHeap.mk.injEq, true_and]
 funext x
 by_cases e : x = b <;> simp [e]
theorem set_self {h : AHeap} {b : Nat} {B : ABlk} (hb : h.get b = some B) : h.set b B = h := by
 obtain ⟨n, g⟩ := h
 simp only [AHeap.set, AHeap.mk.injEq, true_and] at hb ⊢
 funext x
 by_cases e : x = b
 ·simp [e, hb]
 ·simp [e]
theorem st1_of {h : AHeap} {b o : Nat} {sp : Option Nat} {c : List Value} {e : TypeId} {v : Value} (hb : h.get b = some (.cells c e true 0)) (ho : o < c.length) (hv : one v = true) : st1 ⟨b, o, sp⟩ v h = some (h.set b (.cells (c.set o v) e true 0)) := by
 simp [st1, AHeap.wr1, hb, ho, hv]
def Row {α : Type} (enc : α → Value) (h : AHeap) (s : Slc) (xs : List α) : Prop :=
 s.len = xs.length ∧ ∀ i x, xs[i]? = some x → ∃ a c e r fz, s.a = some a ∧ a.block < h.next ∧ h.get a.block = some (.cells c e r fz) ∧ c[a.off + i]? = some (enc x)
def encI (x : Int) : Value := .int .i64 x
def encS (s : ByteArray) : Value := .string s
def encB (b : UInt8) : Value := .int .u8 (b.toNat : Int)
section
variable {α : Type} {enc : α → Value} {h h' : AHeap} {s : Slc} {xs : List α}
theorem Row.nil (enc : α → Value) (h : AHeap) (a : Option Addr) (cap : Nat) : Row enc h ⟨a, 0, cap⟩ [] := ⟨rfl, fun i x hx => by simp at hx⟩
theorem Row.rd (R : Row enc h s xs) {i : Nat} {x : α} (hx : xs[i]? = some x) : ∃ q, idxL 1 s (i : Int) = some q ∧ h.rd1 q.block q.off = some (enc x) ∧ q.block < h.next ∧ ∃ a, s.a = some a ∧ a.block = q.block := by
 obtain ⟨a, c, e, r, fz, h1, h2, h3, h4⟩ := R.2 i x hx
 have hi : i < xs.length := (List.getElem?_eq_some_iff.1 hx).1
 refine ⟨⟨a.block, a.off + i * 1, none⟩, ?_, ?_, h2, a, h1, rfl⟩
 ·simp only [idxL, h1]
  rw [if_pos (by rw [R.1]; omega)]
  simp
 ·simp only [AHeap.rd1, h3, Nat.mul_one]
  exact h4
theorem Row.chg {S : Nat → Prop} (R : Row enc h s xs) (c : Chg S h h') (hs : ∀ a, s.a = some a → ¬ S a.block) : Row enc h' s xs :=
 ⟨R.1, fun i x hx => by
  obtain ⟨a, cc, e, r, fz, h1, h2, h3, h4⟩ := R.2 i x hx
  exact ⟨a, cc, e, r, fz, h1, Nat.lt_of_lt_of_le h2 c.nx, by rw [c.oth _ h2 (hs a h1)]; exact h3, h4⟩⟩
theorem Row.keeps (R : Row enc h s xs) (c : Keeps h h') : Row enc h' s xs := R.chg c fun _ _ f => f
theorem Row.of_block {b o : Nat} {sp : Option Nat} {cap : Nat} {c : List Value} {e : TypeId} {r : Bool} {fz : Nat} (hb : h.get b = some (.cells c e r fz)) (hn : b < h.next)
  (hc : ∀ i x, xs[i]? = some x → c[o + i]? = some (enc x)) : Row enc h ⟨some ⟨b, o, sp⟩, xs.length, cap⟩ xs :=
 ⟨rfl, fun i x hx => ⟨_, c, e, r, fz, rfl, hn, hb, hc i x hx⟩⟩
end
theorem Row.ldI {h : AHeap} {s : Slc} {xs : List Int} (R : Row encI h s xs) {i : Nat} {x : Int} (hx : xs[i]? = some x) : ∃ q, idxL 1 s (i : Int) = some q ∧ Gx.ldI .i64 q h = some x := by
 obtain ⟨q, h1, h2, _⟩ := R.rd hx
 exact ⟨q, h1, by simp [Gx.ldI, h2, encI, decI]⟩
theorem Row.ldS {h : AHeap} {s : Slc} {xs : List ByteArray} (R : Row encS h s xs) {i : Nat} {x : ByteArray} (hx : xs[i]? = some x) : ∃ q, idxL 1 s (i : Int) = some q ∧ Gx.ldS q h = some x := by
 obtain ⟨q, h1, h2, _⟩ := R.rd hx
 exact ⟨q, h1, by simp [Gx.ldS, h2, encS, decS]⟩
theorem Row.ldB {h : AHeap} {s : Slc} {xs : List UInt8} (R : Row encB h s xs) {i : Nat} {x : UInt8} (hx : xs[i]? = some x) : ∃ q, idxL 1 s (i : Int) = some q ∧ Gx.ldI .u8 q h = some (x.toNat : Int) := by
 obtain ⟨q, h1, h2, _⟩ := R.rd hx
 exact ⟨q, h1, by simp [Gx.ldI, h2, encB, decI]⟩
def bl (s : ByteArray) : List UInt8 := s.data.toList
theorem bl_length (s : ByteArray) : (bl s).length = s.size := by simp [bl]
theorem bl_inj {s t : ByteArray} (h : bl s = bl t) : s = t := by
 cases s; cases t; simp [bl] at h; rw [h]
theorem bl_mk (l : List UInt8) : bl ⟨⟨l⟩⟩ = l := rfl
theorem size_mk (l : List UInt8) : (⟨⟨l⟩⟩ : ByteArray).size = l.length := by rw [← bl_length]; rfl
theorem idxS_of {s : ByteArray} {i : Nat} {x : UInt8} (hx : (bl s)[i]? = some x) : idxS s (i : Int) = some (x.toNat : Int) := by
 have hi : i < s.size := by rw [← bl_length]; exact (List.getElem?_eq_some_iff.1 hx).1
 simp only [idxS]
 rw [if_pos (by omega)]
 have : s[(i : Int).toNat]? = some x := by
  rw [Int.toNat_natCast]
  rw [getElem?_pos s i hi]
  have h2 := (List.getElem?_eq_some_iff.1 hx).2
  rw [← h2]; rfl
 rw [this]; rfl
theorem unbytes_map (l : List UInt8) : unbytes (l.map encB) = some l := by
 induction l with
 | nil => rfl
 | cons x l ih =>
  rw [List.map_cons]
  show (match unbytes (l.map encB) with | some t => some (UInt8.ofNat (x.toNat : Int).toNat :: t) | none => none) = _
  rw [ih]
  simp
theorem rdL_all {h : AHeap} {b : Nat} {c : List Value} {e : TypeId} {r : Bool} {fz : Nat} (hb : h.get b = some (.cells c e r fz)) : h.rdL b 0 c.length = some c := by
 unfold AHeap.rdL
 cases hc : c.length with
 | zero => simp at hc; subst hc; rfl
 | succ n => simp only [hb]; rw [if_pos (by omega), List.drop_zero, ← hc, List.take_length]
theorem bytesOf_out {h : AHeap} {b : Nat} {l : List UInt8} {e : TypeId} {r : Bool} {fz cap : Nat} {sp : Option Nat} (hb : h.get b = some (.cells (l.map encB) e r fz)) :
  bytesOf h ⟨some ⟨b, 0, sp⟩, l.length, cap⟩ = some ⟨⟨l⟩⟩ := by
 have := rdL_all hb
 rw [List.length_map] at this
 simp only [bytesOf, this, Option.bind_some, unbytes_map]
theorem idxL_out {b i n cap : Nat} {sp : Option Nat} (hi : i < n) : idxL 1 ⟨some ⟨b, 0, sp⟩, n, cap⟩ (i : Int) = some ⟨b, i, none⟩ := by
 simp only [idxL]
 rw [if_pos (by omega)]
 simp
theorem stB_out {h : AHeap} {b i : Nat} {sp : Option Nat} {l : List UInt8} {e : TypeId} {x : Nat} (hb : h.get b = some (.cells (l.map encB) e true 0)) (hi : i < l.length) (hx : x < 256) :
  st1 ⟨b, i, sp⟩ (.int .u8 (x : Int)) h = some (h.set b (.cells ((l.set i (UInt8.ofNat x)).map encB) e true 0)) := by
 rw [st1_of hb (by simpa using hi) rfl]
 congr 4
 rw [List.map_set]
 congr 1
 simp only [encB]
 congr 1
 rw [UInt8.toNat_ofNat_of_lt' (by simpa using hx)]
theorem rdB_out {h : AHeap} {b i : Nat} {sp : Option Nat} {l : List UInt8} {e : TypeId} {r : Bool} {fz : Nat} {x : UInt8} (hb : h.get b = some (.cells (l.map encB) e r fz)) (hx : l[i]? = some x) :
  ldI .u8 ⟨b, i, sp⟩ h = some (x.toNat : Int) := by
 simp [ldI, AHeap.rd1, hb, hx, encB, decI]
theorem zeros_bytes (n : Nat) : zerosL n [.int .u8 0] = (List.replicate n (0 : UInt8)).map encB := by
 simp [zerosL, encB]
def outB {α : Type} (enc : α → Value) (e : TypeId) (l : List α) : ABlk := .cells (l.map enc) e true 0
theorem fill_step {α : Type} {init : List α} {f : Nat → α} {i : Nat} (hi : i < init.length) :
  ((List.range i).map f ++ init.drop i).set i (f i) = (List.range (i + 1)).map f ++ init.drop (i + 1) := by
 rw [List.set_append_right _ _ (by simp), List.length_map, List.length_range, Nat.sub_self, List.drop_eq_getElem_cons hi, List.set_cons_zero, List.range_succ, List.map_append, List.append_assoc]
 rfl
theorem fill {α R : Type} (enc : α → Value) (e : TypeId) (B : Nat) (f : Nat → α) (init : List α) (h0 : AHeap) (L : Nat → Nat → AHeap → Option R) (J : AHeap → Option R)
  (step : ∀ m i l, i + (m + 1) = init.length → l.length = init.length → (∀ k, i ≤ k → l[k]? = init[k]?) → L (m + 1) i (h0.set B (outB enc e l)) = L m (i + 1) (h0.set B (outB enc e (l.set i (f i)))))
  (base : ∀ h, L 0 init.length h = J h) :
  ∀ m i, i + m = init.length → L m i (h0.set B (outB enc e ((List.range i).map f ++ init.drop i))) = J (h0.set B (outB enc e ((List.range init.length).map f)))
 | 0, i, hi => by
  obtain rfl : i = init.length := by omega
  rw [base, List.drop_length, List.append_nil]
 | m + 1, i, hi => by
  rw [step m i _ hi (by simp; omega) (fun k hk => by
   rw [List.getElem?_append_right (by simpa using hk)]
   simp only [List.length_map, List.length_range, List.getElem?_drop]
   congr 1; omega), fill_step (by omega)]
  exact fill enc e B f init h0 L J step base m (i + 1) (by omega)
theorem fill0 {α R : Type} (enc : α → Value) (e : TypeId) (B : Nat) (f : Nat → α) (init : List α) (h : AHeap) (hb : h.get B = some (outB enc e init)) (L : Nat → Nat → AHeap → Option R) (J : AHeap → Option R)
  (step : ∀ m i l, i + (m + 1) = init.length → l.length = init.length → (∀ k, i ≤ k → l[k]? = init[k]?) → L (m + 1) i (h.set B (outB enc e l)) = L m (i + 1) (h.set B (outB enc e (l.set i (f i)))))
  (base : ∀ h, L 0 init.length h = J h) : L init.length 0 h = J (h.set B (outB enc e ((List.range init.length).map f))) := by
 have := fill enc e B f init h L J step base init.length 0 (by omega)
 rw [List.range_zero, List.map_nil, List.nil_append, List.drop_zero, set_self hb] at this
 exact this
theorem get_out {α : Type} {enc : α → Value} {e : TypeId} {l : List α} {h : AHeap} {B : Nat} : (h.set B (outB enc e l)).get B = some (.cells (l.map enc) e true 0) := by simp [outB]
theorem set_out {α : Type} {enc : α → Value} {e e' : TypeId} {l l' : List α} {h : AHeap} {B : Nat} : (h.set B (outB enc e l)).set B (outB enc e' l') = h.set B (outB enc e' l') := set_set ..
theorem ba_beq (x y : ByteArray) : (x == y) = decide (x = y) := by
 cases x with | mk a => cases y with | mk b =>
 show (a == b) = _
 rw [Bool.eq_iff_iff]
 simp
theorem ne_nz {n : Nat} (h : n ≠ 0) : ¬ ((n : Int) == 0) = true := by
 rw [beq_iff_eq]; omega
theorem isome {α : Type} {l : List α} {i : Nat} (h : i < l.length) : ∃ x, l[i]? = some x := ⟨l[i], by simp [h]⟩
theorem getD_of {α : Type} {l : List α} {i : Nat} {x d : α} (h : l[i]? = some x) : l[i]?.getD d = x := by rw [h]; rfl
theorem getElem_of {α : Type} {l : List α} {i : Nat} {x : α} (h : l[i]? = some x) : ∃ hi : i < l.length, l[i] = x := List.getElem?_eq_some_iff.1 h
theorem mem_of {α : Type} {l : List α} {i : Nat} {x : α} (h : l[i]? = some x) : x ∈ l := List.mem_of_getElem? h
theorem dropc {α : Type} {l : List α} {i : Nat} {x : α} (h : l[i]? = some x) : l.drop i = x :: l.drop (i + 1) := by
 obtain ⟨hi, rfl⟩ := getElem_of h
 exact List.drop_eq_getElem_cons hi
theorem w1 {i : Nat} (h : i < 9223372036854775807) : IntKind.wrap .i64 ((i : Int) + 1) = ((i + 1 : Nat) : Int) := by rw [w64 _ (by omega)]; omega
theorem Row.rdS {α : Type} {enc : α → Value} {h : AHeap} {s : Slc} {xs : List α} (R : Row enc h s xs) : Gx.rdS 1 s h = some (xs.map enc) := by
 unfold Gx.rdS
 cases hx : xs with
 | nil =>
  have h0 : s.len = 0 := by rw [R.1, hx]; rfl
  cases s.a with
  | none => rfl
  | some a => simp [h0, AHeap.rdL]
 | cons x t =>
  obtain ⟨a, c, e, r, fz, h1, h2, h3, h4⟩ := R.2 0 x (by rw [hx]; rfl)
  rw [h1]
  simp only [R.1, hx, List.length_cons, Nat.mul_one, AHeap.rdL, h3]
  have all : ∀ i y, xs[i]? = some y → c[a.off + i]? = some (enc y) := fun i y hy => by
   obtain ⟨a', c', e', r', fz', h1', h2', h3', h4'⟩ := R.2 i y hy
   rw [h1] at h1'; cases h1'
   rw [h3] at h3'; cases h3'
   exact h4'
  have hlen : a.off + xs.length ≤ c.length := by
   obtain ⟨y, hy⟩ := isome (l := xs) (i := xs.length - 1) (by rw [hx]; simp)
   have := (List.getElem?_eq_some_iff.1 (all _ _ hy)).1
   rw [hx] at this ⊢
   simp at this ⊢
   omega
  rw [if_pos (by rw [hx] at hlen; exact hlen)]
  congr 1
  rw [← hx]
  apply List.ext_getElem?
  intro i
  rw [List.getElem?_take, List.getElem?_drop, List.getElem?_map]
  have hl : t.length + 1 = xs.length := by rw [hx]; rfl
  rw [hl]
  by_cases hi : i < xs.length
  ·obtain ⟨y, hy⟩ := isome hi
   rw [if_pos hi, all i y hy, hy]
   rfl
  ·rw [if_neg hi]; simp [hi]
theorem allOne_map {α : Type} {enc : α → Value} (ho : ∀ x, one (enc x) = true) : ∀ xs : List α, allOne (xs.map enc) = true
 | [] => rfl
 | x :: t => by simp [allOne, ho, allOne_map ho t]
theorem append_fresh {α : Type} {enc : α → Value} {bytes : Nat} {e : TypeId} {h : AHeap} {b : Nat} {xs : List α} (hn : xs.length ≠ 0) (hs : 2 * xs.length * bytes ≤ 281474976710656) (h1 : 1 ≤ bytes) :
  appendA 1 bytes e h (⟨some ⟨b, 0, some 0⟩, 0, 0⟩ : Slc) (xs.map enc) xs.length = some (⟨some ⟨h.next, 0, some 2⟩, xs.length, xs.length⟩, h.new (outB enc e xs)) := by
 unfold appendA
 simp only [Nat.zero_add]
 rw [if_neg (by omega), if_pos ⟨hs, h1⟩]
 simp [AHeap.rdL, outB]
theorem append_none {α : Type} {enc : α → Value} {bytes : Nat} {e : TypeId} {h : AHeap} {a : Addr} :
  appendA 1 bytes e h (⟨some a, 0, 0⟩ : Slc) (([] : List α).map enc) 0 = some (⟨some a, 0, 0⟩, h) := by
 simp [appendA]
theorem Row.take {α : Type} {enc : α → Value} {h : AHeap} {a : Option Addr} {n cap cap' : Nat} {xs ys : List α} (R : Row enc h ⟨a, n, cap⟩ (xs ++ ys)) : Row enc h ⟨a, xs.length, cap'⟩ xs :=
 ⟨rfl, fun i x hx => R.2 i x (by rw [List.getElem?_append_left (List.getElem?_eq_some_iff.1 hx).1]; exact hx)⟩
structure Grown {α : Type} (enc : α → Value) (e : TypeId) (h : AHeap) (b : Nat) (s : Slc) (xs : List α) : Prop where
 s : s = ⟨some ⟨b, 0, some 2⟩, xs.length, xs.length⟩
 blk : h.get b = some (outB enc e xs)
 ne : xs ≠ []
theorem Grown.append {α : Type} {enc : α → Value} {e : TypeId} {h : AHeap} {b bytes : Nat} {s : Slc} {xs ys : List α} (g : Grown enc e h b s xs) (ho : ∀ x, one (enc x) = true) (hy : ys ≠ []) (hs : 2 * (xs.length + ys.length) * bytes ≤ 281474976710656) (h1 : 1 ≤ bytes) :
  appendA 1 bytes e h s (ys.map enc) ys.length = some (⟨some ⟨h.next, 0, some 2⟩, (xs ++ ys).length, (xs ++ ys).length⟩, (h.kill b).new (outB enc e (xs ++ ys))) := by
 obtain ⟨rfl, hb, hx⟩ := g
 have l1 : xs.length ≠ 0 := fun e => hx (List.length_eq_zero_iff.1 e)
 have l2 : ys.length ≠ 0 := fun e => hy (List.length_eq_zero_iff.1 e)
 unfold appendA
 rw [if_neg (by simp; omega), if_pos ⟨by simpa using hs, h1⟩]
 simp only [outB] at hb
 simp only [hb]
 rw [if_pos (by simp [allOne_map ho ys, l1])]
 simp [outB, List.take_of_length_le]
theorem Grown.of {α : Type} {enc : α → Value} {e : TypeId} {h : AHeap} {xs : List α} (hx : xs ≠ []) : Grown enc e (h.new (outB enc e xs)) h.next ⟨some ⟨h.next, 0, some 2⟩, xs.length, xs.length⟩ xs := ⟨rfl, by simp, hx⟩
theorem Grown.row {α : Type} {enc : α → Value} {e : TypeId} {h : AHeap} {b : Nat} {s : Slc} {xs : List α} (g : Grown enc e h b s xs) (hb : b < h.next) : Row enc h s xs := by
 obtain ⟨rfl, hg, hx⟩ := g
 exact Row.of_block hg hb fun i x hi => by rw [Nat.zero_add, List.getElem?_map, hi]; rfl
theorem Grown.chg {α : Type} {S : Nat → Prop} {enc : α → Value} {e : TypeId} {h h' : AHeap} {b : Nat} {s : Slc} {xs : List α} (g : Grown enc e h b s xs) (hb : b < h.next) (c : Chg S h h') (hs : ¬ S b) : Grown enc e h' b s xs :=
 ⟨g.s, by rw [c.oth b hb hs]; exact g.blk, g.ne⟩
theorem Chg.kill_new {S : Nat → Prop} {h : AHeap} {b : Nat} {B : ABlk} (hb : h.next ≤ b ∨ S b) : Chg S h ((h.kill b).new B) :=
 ⟨by simp, fun x hx hs => by
  show (if x = h.next then some B else if x = b then none else h.get x) = h.get x
  rw [if_neg (by omega), if_neg]
  rintro rfl
  rcases hb with hb | hb
  ·omega
  ·exact hs hb⟩
structure Acc {α : Type} (enc : α → Value) (e : TypeId) (base : Nat) (h : AHeap) (s : Slc) (xs : List α) : Prop where
 st : (s = ⟨none, 0, 0⟩ ∧ xs = []) ∨ ∃ b, Grown enc e h b s xs
 lt : ∀ a, s.a = some a → a.block < h.next ∧ base ≤ a.block
theorem Acc.nil {α : Type} (enc : α → Value) (e : TypeId) (base : Nat) (h : AHeap) : Acc enc e base h ⟨none, 0, 0⟩ [] := ⟨.inl ⟨rfl, rfl⟩, fun a ha => by cases ha⟩
def ofS (s : Slc) (y : Nat) : Prop := ∃ a, s.a = some a ∧ y = a.block
theorem Acc.chg {α : Type} {S : Nat → Prop} {enc : α → Value} {e : TypeId} {base : Nat} {h h' : AHeap} {s : Slc} {xs : List α} (A : Acc enc e base h s xs) (c : Chg S h h') (hs : ∀ a, s.a = some a → ¬ S a.block) : Acc enc e base h' s xs := by
 refine ⟨A.st.imp id ?_, fun a ha => ⟨Nat.lt_of_lt_of_le (A.lt a ha).1 c.nx, (A.lt a ha).2⟩⟩
 rintro ⟨b, g⟩
 have hb := A.lt ⟨b, 0, some 2⟩ (by rw [g.s])
 exact ⟨b, g.chg hb.1 c (hs ⟨b, 0, some 2⟩ (by rw [g.s]))⟩
theorem Acc.keeps {α : Type} {enc : α → Value} {e : TypeId} {base : Nat} {h h' : AHeap} {s : Slc} {xs : List α} (A : Acc enc e base h s xs) (c : Keeps h h') : Acc enc e base h' s xs := A.chg c fun _ _ f => f
theorem Acc.row {α : Type} {enc : α → Value} {e : TypeId} {base : Nat} {h : AHeap} {s : Slc} {xs : List α} (A : Acc enc e base h s xs) : Row enc h s xs := by
 rcases A.st with ⟨rfl, rfl⟩ | ⟨b, g⟩
 ·exact Row.nil _ _ _ _
 ·exact g.row (A.lt ⟨b, 0, some 2⟩ (by rw [g.s])).1
theorem rdS_one {h : AHeap} {v : Value} {e : TypeId} : Gx.rdS 1 (⟨some ⟨h.next, 0, some 0⟩, 1, 1⟩ : Slc) (h.new (.cells [v] e true 0)) = some [v] := by
 have := rdL_all (h := h.new (.cells [v] e true 0)) (b := h.next) (c := [v]) (e := e) (r := true) (fz := 0) (by simp)
 simpa [Gx.rdS] using this
theorem Acc.push {α : Type} {enc : α → Value} {e : TypeId} {base bytes : Nat} {h : AHeap} {s : Slc} {xs : List α} (A : Acc enc e base h s xs) (ho : ∀ x, one (enc x) = true) (x : α) (hs : 2 * (xs.length + 1) * bytes ≤ 281474976710656) (h1 : 1 ≤ bytes) (hbase : base ≤ h.next) :
  ∃ s' h', appendA 1 bytes e (h.new (.cells [enc x] e true 0)) s [enc x] 1 = some (s', h') ∧ Acc enc e base h' s' (xs ++ [x]) ∧ Chg (ofS s) h h' ∧ ∀ a, s'.a = some a → h.next ≤ a.block := by
 obtain ⟨g1, hg1⟩ : ∃ g1, g1 = h.new (.cells [enc x] e true 0) := ⟨_, rfl⟩
 have k1 : Keeps h g1 := hg1 ▸ Keeps.new h _
 have n1 : g1.next = h.next + 1 := by rw [hg1]; rfl
 rw [← hg1]
 have A1 := A.keeps k1
 rcases A1.st with ⟨rfl, rfl⟩ | ⟨b, g⟩
 ·refine ⟨⟨some ⟨g1.next, 0, some 2⟩, 1, 1⟩, g1.new (outB enc e [x]), ?_, ⟨.inr ⟨g1.next, rfl, by simp, by simp⟩, ?_⟩, (k1.trans (Keeps.new g1 _)).wk fun _ _ f => f.elim, ?_⟩
  ·simp only [appendA]
   rw [if_neg (by omega), if_pos (by simp at hs ⊢; omega)]
   rfl
  ·intro a ha; cases ha; simp; omega
  ·intro a ha; cases ha; simp; omega
 ·have hb := A1.lt ⟨b, 0, some 2⟩ (by rw [g.s])
  have hb0 := A.lt ⟨b, 0, some 2⟩ (by rw [g.s])
  have ap := g.append (bytes := bytes) (ys := [x]) ho (by simp) (by simpa using hs) h1
  refine ⟨_, _, ap, ⟨.inr ⟨g1.next, rfl, by simp, by simp⟩, ?_⟩, ?_, ?_⟩
  ·intro a ha; cases ha; simp; omega
  ·refine Chg.beh (T := (· = b)) (Chg.keeps k1) (Chg.kill_new (.inr rfl)) fun y hy e => ⟨⟨b, 0, some 2⟩, by rw [g.s], e⟩
  ·intro a ha; cases ha; simp; omega
def ApartS (s t : Slc) : Prop := ∀ a b, s.a = some a → t.a = some b → a.block ≠ b.block
theorem ApartS.symm {s t : Slc} (h : ApartS s t) : ApartS t s := fun a b ha hb e => h b a hb ha e.symm
theorem ApartS.fresh {s t : Slc} {n : Nat} (hs : ∀ a, s.a = some a → a.block < n) (ht : ∀ a, t.a = some a → n ≤ a.block) : ApartS s t := fun a b ha hb e => by
 have := hs a ha; have := ht b hb; omega
theorem bl_extract (s : ByteArray) (i j : Nat) : bl (s.extract i j) = ((bl s).take j).drop i := by
 simp [bl, ByteArray.data_extract, List.drop_take]
theorem subS_of {s : ByteArray} {lo hi : Option Int} {i j : Nat} (hh : hi.getD s.size = (j : Int)) (hl : lo.getD 0 = (i : Int)) (h1 : i ≤ j) (h2 : j ≤ s.size) : Gx.subS s lo hi = some ⟨⟨((bl s).take j).drop i⟩⟩ := by
 simp only [Gx.subS, hh, hl]
 rw [if_pos (by omega)]
 congr 1
 apply bl_inj
 rw [Int.toNat_natCast, Int.toNat_natCast]
 exact bl_extract s i j
end Gx
namespace Gx
open Go
def Wp {R : Type} (x : Option R) (Q : R → Prop) : Prop := ∃ r, x = some r ∧ Q r
theorem Wp.bnd {R α : Type} {Q : R → Prop} {x : Option α} {a : α} {f : α → Option R} (h : x = some a) (k : Wp (f a) Q) : Wp (x.bind f) Q := by rw [h]; exact k
theorem Wp.jn {R α : Type} {Q : R → Prop} {J : α} {b : α → Option R} (k : ∀ j, j = J → Wp (b j) Q) : Wp (joinK J b) Q := k J rfl
theorem Wp.ifp {R : Type} {Q : R → Prop} {c : Prop} [Decidable c] {a b : Option R} (h : c) (k : Wp a Q) : Wp (if c then a else b) Q := by rw [if_pos h]; exact k
theorem Wp.ifn {R : Type} {Q : R → Prop} {c : Prop} [Decidable c] {a b : Option R} (h : ¬ c) (k : Wp b Q) : Wp (if c then a else b) Q := by rw [if_neg h]; exact k
theorem Wp.gp {R : Type} {Q : R → Prop} {p : Prop} {x : Option R} (h : p) (k : Wp x Q) : Wp (guardP p x) Q := by rw [guardP_true h]; exact k
theorem Wp.of {R : Type} {Q : R → Prop} {r : R} (h : Q r) : Wp (some r) Q := ⟨r, rfl, h⟩
theorem Wp.mono {R : Type} {Q P : R → Prop} {x : Option R} (h : Wp x Q) (k : ∀ r, Q r → P r) : Wp x P := let ⟨r, e, q⟩ := h; ⟨r, e, k r q⟩
theorem Wp.call {R α : Type} {Q : R → Prop} {P : α → Prop} {x : Option α} {f : α → Option R} (h : Wp x P) (k : ∀ a, P a → Wp (f a) Q) : Wp (x.bind f) Q := let ⟨a, e, p⟩ := h; .bnd e (k a p)
theorem Keeps.set {h0 h : AHeap} {b : Nat} {B : ABlk} (k : Keeps h0 h) (hb : h0.next ≤ b) : Keeps h0 (h.set b B) :=
 Chg.beh k (Chg.set (S := fun x => x = b) (.inr rfl)) fun x hx e => by have e : x = b := e; omega
theorem sldI_at {h : AHeap} {b o : Nat} {sp : Option Nat} {c : List Value} {e : TypeId} {r : Bool} {fz : Nat} {k : IntKind} {x : Int} (hb : h.get b = some (.cells c e r fz)) (hc : c[o]? = some (.int k x)) : ldI k ⟨b, o, sp⟩ h = some x := by
 simp [ldI, AHeap.rd1, hb, hc, decI]
theorem sldA_at {h : AHeap} {b n : Nat} {sp : Option Nat} {c : List Value} {e : TypeId} {r : Bool} {fz : Nat} (hb : h.get b = some (.cells c e r fz)) (hc : c.length = n) : ldA n ⟨b, 0, sp⟩ h = some c := by
 subst hc; exact rdL_all hb
theorem sstL_at {h : AHeap} {b n : Nat} {sp : Option Nat} {c cs : List Value} {e : TypeId} (hb : h.get b = some (.cells c e true 0)) (hc : c.length = n) (hl : cs.length = n) (ho : allOne cs = true) (hn : n ≠ 0) :
  stL n ⟨b, 0, sp⟩ cs h = some (h.set b (.cells cs e true 0)) := by
 unfold stL
 rw [hl, Nat.beq_refl, cond_true]
 cases cs with
 | nil => simp at hl; omega
 | cons v t =>
  simp only [AHeap.wrL, hb]
  rw [if_pos ⟨by omega, Nat.le_refl _, ho⟩]
  simp only [splice, List.take_zero, List.nil_append, Nat.zero_add, hl]
  rw [← hc, List.drop_length, List.append_nil]
theorem sset_get (h : AHeap) (b : Nat) (B : ABlk) : (h.set b B).get b = some B := by simp
theorem Acc.app {α : Type} {enc : α → Value} {e : TypeId} {base bytes : Nat} {h : AHeap} {s : Slc} {xs : List α} (A : Acc enc e base h s xs) (ho : ∀ x, one (enc x) = true) (ys : List α) (hs : 2 * (xs.length + ys.length) * bytes ≤ 281474976710656) (h1 : 1 ≤ bytes) (hbase : base ≤ h.next) :
  ∃ s' h', appendA 1 bytes e h s (ys.map enc) ys.length = some (s', h') ∧ Acc enc e base h' s' (xs ++ ys) ∧ Chg (ofS s) h h' ∧ ∀ a, s'.a = some a → h.next ≤ a.block ∨ s.a = some a := by
 by_cases hy : ys = []
 ·subst hy
  rw [List.append_nil]
  rcases A.st with ⟨rfl, rfl⟩ | ⟨b, g⟩
  ·exact ⟨⟨none, 0, 0⟩, h, by simp [appendA], A, Chg.refl _ _, fun a ha => by cases ha⟩
  ·refine ⟨s, h, ?_, A, Chg.refl _ _, fun a ha => .inr ha⟩
   rw [g.s]; simp [appendA]
 ·have hl : ys.length ≠ 0 := fun q => hy (List.length_eq_zero_iff.1 q)
  rcases A.st with ⟨rfl, rfl⟩ | ⟨b, g⟩
  ·refine ⟨⟨some ⟨h.next, 0, some 2⟩, ys.length, ys.length⟩, h.new (outB enc e ys), ?_, ⟨.inr ⟨h.next, by simpa using Grown.of hy⟩, ?_⟩, Chg.new _ _, ?_⟩
   ·simp only [appendA, Nat.zero_add]
    rw [if_neg (by omega), if_pos (by simp at hs; omega)]
    rfl
   ·intro a ha; cases ha; simp; omega
   ·intro a ha; cases ha; simp
  ·have hb := A.lt ⟨b, 0, some 2⟩ (by rw [g.s])
   have ap := g.append (bytes := bytes) (ys := ys) ho hy hs h1
   refine ⟨_, _, ap, ⟨.inr ⟨h.next, rfl, by simp, by simp [hy]⟩, ?_⟩, Chg.kill_new (.inr ⟨⟨b, 0, some 2⟩, by rw [g.s], rfl⟩), ?_⟩
   ·intro a ha; cases ha; simp; omega
   ·intro a ha; cases ha; simp
structure Lst {α : Type} (enc : α → Value) (e : TypeId) (n0 : Nat) (h : AHeap) (s : Slc) (xs : List α) : Prop where
 ne : xs ≠ []
 st : ∃ b sp, s = ⟨some ⟨b, 0, sp⟩, xs.length, xs.length⟩ ∧ h.get b = some (outB enc e xs) ∧ n0 ≤ b ∧ b < h.next ∧ (sp = some 0 ∨ sp = some 2)
theorem Lst.chg {α : Type} {S : Nat → Prop} {enc : α → Value} {e : TypeId} {n0 : Nat} {h h' : AHeap} {s : Slc} {xs : List α} (L : Lst enc e n0 h s xs) (c : Chg S h h') (hs : ∀ a, s.a = some a → ¬ S a.block) : Lst enc e n0 h' s xs := by
 obtain ⟨b, sp, h1, h2, h3, h4, h5⟩ := L.st
 exact ⟨L.ne, b, sp, h1, (c.oth b h4 (hs ⟨b, 0, sp⟩ (by rw [h1]))).trans h2, h3, Nat.lt_of_lt_of_le h4 c.nx, h5⟩
theorem Lst.len {α : Type} {enc : α → Value} {e : TypeId} {n0 : Nat} {h : AHeap} {s : Slc} {xs : List α} (L : Lst enc e n0 h s xs) : s.len = xs.length := by
 obtain ⟨b, sp, h1, _⟩ := L.st
 rw [h1]
theorem Lst.app {α : Type} {enc : α → Value} {e : TypeId} {n0 bytes : Nat} {h : AHeap} {s : Slc} {xs : List α} (L : Lst enc e n0 h s xs) (ho : ∀ x, one (enc x) = true) (ys : List α) (hy : ys ≠ []) (hs : 2 * (xs.length + ys.length) * bytes ≤ 281474976710656) (h1 : 1 ≤ bytes) (hn : n0 ≤ h.next) :
  ∃ s' h', appendA 1 bytes e h s (ys.map enc) ys.length = some (s', h') ∧ Lst enc e n0 h' s' (xs ++ ys) ∧ Chg (fun x => n0 ≤ x) h h' := by
 obtain ⟨b, sp, rfl, g2, g3, g4, g5⟩ := L.st
 have l2 : ys.length ≠ 0 := fun q => hy (List.length_eq_zero_iff.1 q)
 have l1 : 0 < xs.length := List.length_pos_iff.2 L.ne
 rcases g5 with rfl | rfl
 ·have hr := rdL_all g2
  rw [List.length_map] at hr
  refine ⟨⟨some ⟨h.next, 0, some 2⟩, (xs ++ ys).length, (xs ++ ys).length⟩, h.new (outB enc e (xs ++ ys)), ?_, ⟨by simp [hy], h.next, _, rfl, by simp, hn, by simp, .inr rfl⟩, Chg.new _ _⟩
  unfold appendA
  rw [if_neg (by simp; omega), if_pos ⟨by simpa using hs, h1⟩]
  simp only [Nat.mul_one, hr]
  simp [outB]
 ·have g : Grown enc e h b (⟨some ⟨b, 0, some 2⟩, xs.length, xs.length⟩ : Slc) xs := ⟨rfl, g2, L.ne⟩
  exact ⟨_, _, g.append ho hy hs h1, ⟨by simp [hy], h.next, _, rfl, by simp, hn, by simp, .inr rfl⟩, Chg.kill_new (.inr g3)⟩
end Gx
namespace Gx
open Go
structure RowW {α : Type} (w : Nat) (enc : α → List Value) (h : AHeap) (s : Slc) (xs : List α) : Prop where
 len : s.len = xs.length
 at' : ∀ (i : Nat) (x : α), xs[i]? = some x → ∃ a c e r fz, s.a = some a ∧ a.block < h.next ∧ h.get a.block = some (.cells c e r fz) ∧ ∀ (j : Nat) (v : Value), (enc x)[j]? = some v → c[a.off + i * w + j]? = some v
section
variable {α : Type} {w : Nat} {enc : α → List Value} {h h' : AHeap} {s : Slc} {xs : List α}
theorem RowW.nil (w : Nat) (enc : α → List Value) (h : AHeap) (a : Option Addr) (cap : Nat) : RowW w enc h ⟨a, 0, cap⟩ [] := ⟨rfl, fun i x hx => by simp at hx⟩
theorem RowW.chg {S : Nat → Prop} (R : RowW w enc h s xs) (c : Chg S h h') (hs : ∀ a, s.a = some a → ¬ S a.block) : RowW w enc h' s xs :=
 ⟨R.len, fun i x hx => by
  obtain ⟨a, cs, e, r, fz, h1, h2, h3, h4⟩ := R.at' i x hx
  exact ⟨a, cs, e, r, fz, h1, Nat.lt_of_lt_of_le h2 c.nx, (c.oth _ h2 (hs a h1)).trans h3, h4⟩⟩
theorem RowW.keeps (R : RowW w enc h s xs) (c : Keeps h h') : RowW w enc h' s xs := R.chg c fun _ _ f => f
theorem RowW.ld (R : RowW w enc h s xs) (hw : ∀ x, (enc x).length = w) (hw0 : 0 < w) {i : Nat} {x : α} (hx : xs[i]? = some x) :
  ∃ q, idxL w s (i : Int) = some q ∧ ldA w q h = some (enc x) ∧ (∀ (j : Nat) (k : IntKind) (n : Int), (enc x)[j]? = some (.int k n) → ldI k ⟨q.block, q.off + j, none⟩ h = some n) ∧ (∀ (j : Nat) (t : ByteArray), (enc x)[j]? = some (.string t) → ldS ⟨q.block, q.off + j, none⟩ h = some t) := by
 obtain ⟨a, c, e, r, fz, h1, h2, h3, h4⟩ := R.at' i x hx
 have hi : i < s.len := by rw [R.len]; exact (List.getElem?_eq_some_iff.1 hx).1
 refine ⟨⟨a.block, a.off + i * w, none⟩, ?_, ?_, fun j k n hj => sldI_at h3 (h4 j _ hj), fun j t hj => ?_⟩
 ·simp only [idxL, h1]
  rw [if_pos (by omega), Int.toNat_natCast]
 ·obtain ⟨m, rfl⟩ : ∃ m, w = m + 1 := ⟨w - 1, by omega⟩
  have hl : (enc x).length = m + 1 := hw x
  obtain ⟨v, hv⟩ := isome (l := enc x) (i := m) (by omega)
  have hlt := (List.getElem?_eq_some_iff.1 (h4 m v hv)).1
  simp only [ldA, AHeap.rdL, h3]
  rw [if_pos (by omega)]
  congr 1
  apply List.ext_getElem?
  intro j
  rw [List.getElem?_take, List.getElem?_drop]
  by_cases hj : j < m + 1
  ·obtain ⟨u, hu⟩ := isome (l := enc x) (i := j) (by omega)
   rw [if_pos hj, hu]; exact h4 j u hu
  ·rw [if_neg hj, List.getElem?_eq_none (by omega)]
 ·simp [ldS, AHeap.rd1, h3, h4 j _ hj, decS]
theorem flatW_length (hw : ∀ x, (enc x).length = w) : ∀ xs : List α, (xs.flatMap enc).length = xs.length * w
 | [] => by simp
 | x :: xs => by rw [List.flatMap_cons, List.length_append, flatW_length hw xs, hw x, List.length_cons, Nat.succ_mul]; omega
theorem flatW_get (hw : ∀ x, (enc x).length = w) : ∀ {xs : List α} {i : Nat} {x : α}, xs[i]? = some x → ∀ (j : Nat) (v : Value), (enc x)[j]? = some v → (xs.flatMap enc)[i * w + j]? = some v
 | [], i, x, h, _, _, _ => by simp at h
 | y :: xs, 0, x, h, j, v, hv => by
  simp at h; subst h
  have hj : j < (enc y).length := (List.getElem?_eq_some_iff.1 hv).1
  rw [List.flatMap_cons, Nat.zero_mul, Nat.zero_add, List.getElem?_append_left hj]; exact hv
 | y :: xs, i + 1, x, h, j, v, hv => by
  have := flatW_get hw (xs := xs) (i := i) (x := x) (by simpa using h) j v hv
  rw [List.flatMap_cons, List.getElem?_append_right (by rw [hw y, Nat.succ_mul]; omega), hw y, show (i + 1) * w + j - w = i * w + j by rw [Nat.succ_mul]; omega]
  exact this
theorem rowW_blk (hw : ∀ x, (enc x).length = w) {b n cap : Nat} {sp : Option Nat} {ys : List α} {e : TypeId} {r : Bool} {fz : Nat} (hb : h.get b = some (.cells (ys.flatMap enc) e r fz)) (hl : b < h.next) (hn : n ≤ ys.length) : RowW w enc h ⟨some ⟨b, 0, sp⟩, n, cap⟩ (ys.take n) :=
 ⟨by rw [List.length_take]; show n = min n ys.length; omega, fun i x hx => by
  rw [List.getElem?_take] at hx
  split at hx
  ·exact ⟨_, _, _, _, _, rfl, hl, hb, fun j v hv => by rw [Nat.zero_add]; exact flatW_get hw hx j v hv⟩
  ·cases hx⟩
end
structure AccW {α : Type} (w : Nat) (enc : α → List Value) (e : TypeId) (base : Nat) (h : AHeap) (s : Slc) (xs : List α) : Prop where
 st : (s = ⟨none, 0, 0⟩ ∧ xs = []) ∨ ∃ b, s = ⟨some ⟨b, 0, some (w + 1)⟩, xs.length, xs.length⟩ ∧ h.get b = some (.cells (xs.flatMap enc) e true 0) ∧ xs ≠ []
 lt : ∀ a, s.a = some a → a.block < h.next ∧ base ≤ a.block
section
variable {α : Type} {w : Nat} {enc : α → List Value} {e : TypeId} {base : Nat} {h h' : AHeap} {s : Slc} {xs : List α}
theorem AccW.nil (w : Nat) (enc : α → List Value) (e : TypeId) (base : Nat) (h : AHeap) : AccW w enc e base h ⟨none, 0, 0⟩ [] := ⟨.inl ⟨rfl, rfl⟩, fun a ha => by cases ha⟩
theorem AccW.chg {S : Nat → Prop} (A : AccW w enc e base h s xs) (c : Chg S h h') (hs : ∀ a, s.a = some a → ¬ S a.block) : AccW w enc e base h' s xs := by
 refine ⟨A.st.imp id ?_, fun a ha => ⟨Nat.lt_of_lt_of_le (A.lt a ha).1 c.nx, (A.lt a ha).2⟩⟩
 rintro ⟨b, h1, h2, h3⟩
 have hb := A.lt ⟨b, 0, some (w + 1)⟩ (by rw [h1])
 exact ⟨b, h1, (c.oth b hb.1 (hs ⟨b, 0, some (w + 1)⟩ (by rw [h1]))).trans h2, h3⟩
theorem AccW.keeps (A : AccW w enc e base h s xs) (c : Keeps h h') : AccW w enc e base h' s xs := A.chg c fun _ _ f => f
theorem AccW.row (A : AccW w enc e base h s xs) (hw : ∀ x, (enc x).length = w) : RowW w enc h s xs := by
 rcases A.st with ⟨rfl, rfl⟩ | ⟨b, rfl, h2, h3⟩
 ·exact RowW.nil _ _ _ _ _
 ·have := rowW_blk (cap := xs.length) (sp := some (w + 1)) hw h2 (A.lt ⟨b, 0, some (w + 1)⟩ rfl).1 (Nat.le_refl _)
  rw [List.take_length] at this
  exact this
theorem AccW.take (A : AccW w enc e base h s xs) (hw : ∀ x, (enc x).length = w) {n : Nat} (hn : n ≤ xs.length) (hx : 0 < xs.length) : ∃ t, subL w s none (some (n : Int)) none = some t ∧ RowW w enc h t (xs.take n) ∧ ∀ a, t.a = some a → base ≤ a.block ∧ a.block < h.next := by
 rcases A.st with ⟨_, rfl⟩ | ⟨b, rfl, h2, h3⟩
 ·simp at hx
 ·have hb := A.lt ⟨b, 0, some (w + 1)⟩ rfl
  refine ⟨⟨some ⟨b, 0, some (w + 1)⟩, n, xs.length⟩, ?_, rowW_blk hw h2 hb.1 hn, fun a ha => by cases ha; exact ⟨hb.2, hb.1⟩⟩
  simp only [subL, Option.getD_none, Option.getD_some]
  rw [if_pos (by omega), if_pos (by simp [spOk])]
  simp
theorem rdS_oneW (hw : ∀ x, (enc x).length = w) (x : α) (e : TypeId) : rdS w (⟨some ⟨h.next, 0, some 0⟩, 1, 1⟩ : Slc) (h.new (.cells (enc x) e true 0)) = some (enc x) := by
 have := rdL_all (h := h.new (.cells (enc x) e true 0)) (b := h.next) (c := enc x) (e := e) (r := true) (fz := 0) (by simp)
 rw [hw x] at this
 simpa [rdS] using this
theorem AccW.push (A : AccW w enc e base h s xs) (hw : ∀ x, (enc x).length = w) (ho : ∀ x, allOne (enc x) = true) (x : α) {bytes : Nat} (h1 : 1 ≤ bytes) (hs : 2 * (xs.length + 1) * bytes ≤ 281474976710656) (hbase : base ≤ h.next) :
  ∃ s' h', appendA w bytes e (h.new (.cells (enc x) e true 0)) s (enc x) 1 = some (s', h') ∧ AccW w enc e base h' s' (xs ++ [x]) ∧ Chg (ofS s) h h' ∧ ∀ a, s'.a = some a → h.next ≤ a.block := by
 obtain ⟨g1, hg1⟩ : ∃ g1, g1 = h.new (.cells (enc x) e true 0) := ⟨_, rfl⟩
 have k1 : Keeps h g1 := hg1 ▸ Keeps.new h _
 have n1 : g1.next = h.next + 1 := by rw [hg1]; rfl
 rw [← hg1]
 have A1 := A.keeps k1
 rcases A1.st with ⟨rfl, rfl⟩ | ⟨b, rfl, h2, h3⟩
 ·refine ⟨⟨some ⟨g1.next, 0, some (w + 1)⟩, 1, 1⟩, g1.new (.cells (enc x) e true 0), ?_, ⟨.inr ⟨g1.next, rfl, by simp, by simp⟩, ?_⟩, (k1.trans (Keeps.new g1 _)).wk fun _ _ f => f.elim, ?_⟩
  ·simp only [appendA]
   rw [if_neg (by omega), if_pos (by simp at hs ⊢; omega)]
  ·intro a ha; cases ha; simp; omega
  ·intro a ha; cases ha; simp; omega
 ·have hb := A1.lt ⟨b, 0, some (w + 1)⟩ rfl
  have hl := flatW_length hw xs
  have hx : 0 < xs.length := List.length_pos_iff.2 h3
  refine ⟨⟨some ⟨g1.next, 0, some (w + 1)⟩, xs.length + 1, xs.length + 1⟩, (g1.kill b).new (.cells ((xs ++ [x]).flatMap enc) e true 0), ?_, ⟨.inr ⟨g1.next, by simp, by simp, by simp⟩, ?_⟩, Chg.beh (T := (· = b)) (Chg.keeps k1) (Chg.kill_new (.inr rfl)) fun y hy q => ⟨⟨b, 0, some (w + 1)⟩, rfl, q⟩, ?_⟩
  ·simp only [appendA]
   rw [if_neg (by omega), if_pos ⟨hs, h1⟩]
   simp only [h2]
   rw [if_pos ⟨by omega, trivial, by omega, by omega, trivial, trivial, ho x⟩, ← hl, List.take_length, List.flatMap_append]
   simp
  ·intro a ha; cases ha; simp; omega
  ·intro a ha; cases ha; simp; omega
end
end Gx
namespace Gx
open Go Go.RowKit Go.ChangeShapes Go.WideShapes
structure Start (w : World) (μ : BMap) (h : AHeap) (G : Nat := 0) : Prop where
 sim : Sim G μ h w
 z : ∀ b, h.next ≤ b → μ b = none
 ro : ∀ b B, h.get b = some B → B.isRW = false
theorem Start.zero (w : World) : Start w (fun _ => none) h0 := ⟨sim0 w, fun _ _ => rfl, fun b B hb => by cases hb⟩
theorem put_self (μ : BMap) (b : Nat) (p : Nat × Nat × Nat) : (μ.put b p) b = some p := by simp [BMap.put]
theorem Start.add {G : Nat} {w : World} {μ : BMap} {h : AHeap} (S : Start w μ h G) {c d : Nat} {arr : Array Value} {e : TypeId} {fz : Nat × Nat} (hO : w.heap[c]? = some (.cells arr e fz)) {cs : List Value}
  (hc : ∀ (i : Nat) v, cs[i]? = some v → ∃ v', arr[d + i]? = some v' ∧ VR μ v v') : Start w (μ.put h.next (c, d, arr.size)) (h.new (.cells cs e false 0)) G := by
 have le := BMap.put_le (p := (c, d, arr.size)) (S.z h.next (Nat.le_refl _))
 refine ⟨⟨fun b B hb => ?_, fun b₁ b₂ B₁ B₂ p₁ p₂ h1 h2 _ hr _ _ => ?_, fun b B hb => ?_, fun g hg => let ⟨z, hz⟩ := S.sim.glob g hg; ⟨z, le _ _ hz⟩, Nat.le_trans S.sim.gle (by simp)⟩, fun b hb => ?_, fun b B hb => ?_⟩
 ·rw [AHeap.get_new] at hb
  split at hb
  ·rename_i e'; subst e'; cases hb
   exact ⟨c, d, arr.size, _, put_self _ _ _, hO, rfl, rfl, fun i v hv => let ⟨v', h1, h2⟩ := hc i v hv; ⟨v', h1, h2.mono le⟩, fun hf => by cases hf⟩
  ·obtain ⟨c', d', z', O', hm, hO', hr⟩ := S.sim.blk b B hb
   exact ⟨c', d', z', O', le _ _ hm, hO', hr.mono le⟩
 ·rw [AHeap.get_new] at h1
  split at h1
  ·cases h1; cases hr
  ·rw [S.ro b₁ B₁ h1] at hr; cases hr
 ·rw [AHeap.get_new] at hb
  split at hb
  ·rename_i e'; subst e'; simp
  ·have := S.sim.lt b B hb; simp; omega
 ·simp only [AHeap.next_new] at hb
  have : b ≠ h.next := by omega
  simp only [BMap.put, this, if_false]
  exact S.z b (by omega)
 ·rw [AHeap.get_new] at hb
  split at hb
  ·cases hb; rfl
  ·exact S.ro b B hb
def AHeap.hole (h : AHeap) : AHeap := ⟨h.next + 1, h.get⟩
theorem Start.hole {G : Nat} {w : World} {μ : BMap} {h : AHeap} (S : Start w μ h G) (p : Nat × Nat × Nat) : Start w (μ.put h.next p) h.hole G := by
 have le := BMap.put_le (p := p) (S.z h.next (Nat.le_refl _))
 refine ⟨⟨fun b B hb => ?_, fun b₁ b₂ B₁ B₂ p₁ p₂ h1 h2 _ hr _ _ => ?_, fun b B hb => ?_, fun g hg => let ⟨z, hz⟩ := S.sim.glob g hg; ⟨z, le _ _ hz⟩, Nat.le_trans S.sim.gle (Nat.le_succ _)⟩, fun b hb => ?_, fun b B hb => S.ro b B hb⟩
 ·obtain ⟨c', d', z', O', hm, hO', hr⟩ := S.sim.blk b B hb
  exact ⟨c', d', z', O', le _ _ hm, hO', hr.mono le⟩
 ·rw [S.ro b₁ B₁ h1] at hr; cases hr
 ·have := S.sim.lt b B hb
  show b < h.next + 1
  omega
 ·have hb : h.next + 1 ≤ b := hb
  have : b ≠ h.next := by omega
  simp only [BMap.put, this, if_false]
  exact S.z b (by omega)
theorem Keeps.hole (h : AHeap) : Keeps h h.hole := ⟨Nat.le_succ _, fun _ _ _ => rfl⟩
structure More (w : World) (μ : BMap) (h : AHeap) (μ' : BMap) (h' : AHeap) (G : Nat := 0) : Prop where
 st : Start w μ' h' G
 le : BLe μ μ'
 kp : Keeps h h'
theorem Start.row {G : Nat} {α : Type} {enc : α → Value} (pl : ∀ x, plainV (enc x) = true) {w : World} {μ : BMap} {h : AHeap} (S : Start w μ h G) {a : Addr} {len cap : Nat} {zs : List α} (hz : zs.length = cap) (hl : len ≤ cap)
  (hc : ∀ (i : Nat) x, zs[i]? = some x → w.cell? (a.add i) = some (enc x)) :
  ∃ μ' h' s, More w μ h μ' h' G ∧ VR μ' (.slice s.a s.len s.cap) (.slice (some a) len cap) ∧ Row enc h' s (zs.take len) ∧ ∀ b, s.a = some b → b.block < h'.next ∧ h.next ≤ b.block := by
 by_cases h0 : cap = 0
 ·obtain rfl : len = 0 := by omega
  have hzn : zs = [] := List.length_eq_zero_iff.1 (hz.trans h0)
  refine ⟨_, h.hole, ⟨some ⟨h.next, 0, none⟩, 0, 0⟩, ⟨S.hole (0, 0, 0), BMap.put_le (S.z _ (Nat.le_refl _)), .hole h⟩, ?_, ?_, ?_⟩
  ·subst h0; exact .empty fun _ => rfl
  ·rw [hzn]; exact Row.nil _ _ _ _
  ·intro b hb; cases hb; exact ⟨Nat.lt_succ_self _, Nat.le_refl _⟩
 ·obtain ⟨x0, hx0⟩ := isome (l := zs) (i := 0) (by omega)
  have c0 := hc 0 x0 hx0
  obtain ⟨b, off, sp⟩ := a
  have hsp : sp = none := by simpa [Addr.add] using World.cell?_spot c0
  subst hsp
  have cell : ∀ (i : Nat) x, zs[i]? = some x → w.cell? ⟨b, off + i, none⟩ = some (enc x) := fun i x hx => by rw [← add_plain]; exact hc i x hx
  obtain ⟨arr, e, fz, hO⟩ : ∃ arr e fz, w.heap[b]? = some (.cells arr e fz) := by
   have := cell 0 x0 hx0
   unfold World.cell? at this
   split at this
   ·rename_i c e fz hh; exact ⟨c, e, fz, hh⟩
   ·cases this
  have arrs : ∀ (i : Nat) x, zs[i]? = some x → arr[off + i]? = some (enc x) := fun i x hx => by
   have := cell i x hx
   unfold World.cell? at this
   rw [hO] at this
   simpa using this
  have A := S.add (d := off) (cs := zs.map enc) hO (fun i v hv => by
   rw [List.getElem?_map] at hv
   cases hx : zs[i]? with
   | none => rw [hx] at hv; cases hv
   | some x => rw [hx] at hv; cases hv; exact ⟨_, arrs i x hx, .of_plain (pl x)⟩)
  refine ⟨_, _, ⟨some ⟨h.next, 0, none⟩, len, cap⟩, ⟨A, BMap.put_le (S.z _ (Nat.le_refl _)), Keeps.new h _⟩, ?_, ?_, ?_⟩
  ·exact .slice (put_self _ _ _) rfl
  ·have := Row.of_block (enc := enc) (h := h.new (.cells (zs.map enc) e false 0)) (xs := zs.take len) (b := h.next) (o := 0) (sp := none) (cap := cap) (c := zs.map enc) (e := e) (r := false) (fz := 0) (by simp) (by simp) (fun i x hx => by
    rw [Nat.zero_add, List.getElem?_map]
    rw [List.getElem?_take] at hx
    split at hx
    ·rw [hx]; rfl
    ·cases hx)
   rw [List.length_take, hz, Nat.min_eq_left hl] at this
   exact this
  ·intro b hb; cases hb; simp
section
variable {H : Type} {enc : TypeId × Value → H} {P : Program} {w : World} {r : Reach} {base : Nat} {t e : TypeId} {v : Value} {d : DataW H} {ps : List MemPlace} {μ : BMap} {h : AHeap}
theorem open_two {k e : TypeId} (hk : P.underlying k = some (.array 2 e)) (h1 : P.cellsOf e = 1) (h2 : P.cellsOf k = 2) (hval : Value.okWide P w r base k v) (hd : DataW.Trod enc P w 0 (fun _ => true) true k v d ps) :
  ∃ c0 c1 n y0 y1, v = .agg #[c0, c1] ∧ DataW.trod enc P w 0 (fun _ => true) true n e [c0] = some y0 ∧ DataW.trod enc P w 0 (fun _ => true) true n e [c1] = some y1 := by
 simp only [Value.okWide, hk] at hval
 obtain ⟨cs, rfl, hs, _⟩ := hval
 rw [h2] at hs
 obtain ⟨l⟩ := cs
 match l, hs with
 | [c0, c1], _ =>
  obtain ⟨fuel, hf⟩ := hd
  cases fuel with
  | zero => simp [DataW.trod] at hf
  | succ n =>
   rw [DataW.trod_step] at hf
   unfold DataW.trodStep at hf
   simp only [hk, Value.cells] at hf
   rw [if_pos (by rw [h2]; rfl)] at hf
   simp only [Option.map_eq_some_iff] at hf
   obtain ⟨xs, hx, e1⟩ := hf
   rw [show List.range 2 = [0, 1] from rfl, List.mapM_cons, List.mapM_cons, List.mapM_nil] at hx
   simp only [bind, Option.bind_eq_some_iff, pure, Option.some.injEq, h1] at hx
   obtain ⟨y0, q0, _, ⟨y1, q1, _, rfl, rfl⟩, rfl⟩ := hx
   exact ⟨c0, c1, n, y0, y1, rfl, by simpa using q0, by simpa using q1⟩
theorem trodAll_after (hl : laidOutB P = true) {W' : World} (hb : Below w.heap.size w W') : ∀ {ts : List TypeId} {vs : List Value} {ds : List (DataW H)} {ps : List MemPlace}, (∀ t ∈ ts, P.readableRec t = true ∧ t < P.types.size) →
  DataW.TrodAll enc P w 0 (fun _ => true) true ts vs ds ps → DataW.TrodAll enc P W' 0 (fun b => decide (b < w.heap.size)) true ts vs ds ps
 | [], [], [], ps, _, h => h
 | t :: ts, v :: vs, d :: ds, ps, hr, h => by
  have hlt := DataW.TrodAll.lt h
  obtain ⟨p, q, h1, h2, rfl⟩ := h
  exact ⟨p, q, Below.trod hl (hr t (by simp)).1 (hr t (by simp)).2 h1 hb (fun x hx => hlt x (by simp [hx])), trodAll_after hl hb (fun t ht => hr t (by simp [ht])) h2, rfl⟩
 | [], [], _ :: _, _, _, h => nomatch h
 | [], _ :: _, [], _, _, h => nomatch h
 | [], _ :: _, _ :: _, _, _, h => nomatch h
 | _ :: _, [], [], _, _, h => nomatch h
 | _ :: _, [], _ :: _, _, _, h => nomatch h
 | _ :: _, _ :: _, [], _, _, h => nomatch h
end
end Gx
namespace Gx
open Go Go.RowKit Go.ChangeShapes Go.WideShapes
inductive DT where
 | int (k : IntKind) | bool | str | unit
 | pair (a b : DT)
 | list (t : DT)
def DT.w : DT → Nat
 | .int _ => 1
 | .bool => 1
 | .str => 1
 | .unit => 0
 | .pair a b => a.w + b.w
 | .list _ => 1
abbrev DT.V : DT → Type
 | .int _ => Int
 | .bool => Bool
 | .str => ByteArray
 | .unit => Unit
 | .pair a b => a.V × b.V
 | .list t => List t.V
def Rep (h : AHeap) : (t : DT) → t.V → List Value → Prop
 | .int k, x, cs => cs = [.int k x]
 | .bool, x, cs => cs = [.bool x]
 | .str, x, cs => cs = [.string x]
 | .unit, _, cs => cs = []
 | .pair a b, x, cs => ∃ c1 c2, cs = c1 ++ c2 ∧ Rep h a x.1 c1 ∧ Rep h b x.2 c2
 | .list t, xs, cs => ∃ sl : Slc, cs = [.slice sl.a sl.len sl.cap] ∧ sl.len = xs.length ∧ (∀ a, sl.a = some a → a.block < h.next) ∧
   ∀ (i : Nat) (x : t.V), xs[i]? = some x → ∃ a c e r fz cx, sl.a = some a ∧ h.get a.block = some (.cells c e r fz) ∧ cx.length = t.w ∧ (∀ (j : Nat) (v : Value), cx[j]? = some v → c[a.off + i * t.w + j]? = some v) ∧ Rep h t x cx
theorem Rep.len {h : AHeap} : ∀ {t : DT} {x : t.V} {cs : List Value}, Rep h t x cs → cs.length = t.w
 | .int _, _, _, e => by rw [show _ = _ from e]; rfl
 | .bool, _, _, e => by rw [show _ = _ from e]; rfl
 | .str, _, _, e => by rw [show _ = _ from e]; rfl
 | .unit, _, _, e => by rw [show _ = _ from e]; rfl
 | .pair a b, _, _, ⟨c1, c2, e, h1, h2⟩ => by rw [e, List.length_append, Rep.len h1, Rep.len h2]; rfl
 | .list t, _, _, ⟨sl, e, _⟩ => by rw [e]; rfl
theorem Rep.keeps {h h' : AHeap} (k : Keeps h h') : ∀ {t : DT} {x : t.V} {cs : List Value}, Rep h t x cs → Rep h' t x cs
 | .int _, _, _, e => e
 | .bool, _, _, e => e
 | .str, _, _, e => e
 | .unit, _, _, e => e
 | .pair _ _, _, _, ⟨c1, c2, e, h1, h2⟩ => ⟨c1, c2, e, h1.keeps k, h2.keeps k⟩
 | .list _, _, _, ⟨sl, e, hl, hb, hx⟩ => ⟨sl, e, hl, fun a ha => Nat.lt_of_lt_of_le (hb a ha) k.nx, fun i x hi => by
   obtain ⟨a, c, ee, r, fz, cx, h1, h2, h3, h4, h5⟩ := hx i x hi
   exact ⟨a, c, ee, r, fz, cx, h1, (k.oth _ (hb a h1) fun f => f).trans h2, h3, h4, h5.keeps k⟩⟩
def shFs (P : Program) (g : TypeId → Option DT) : Nat → List Field → Option DT
 | _, [] => some .unit
 | off, f :: fs => if f.offset = off then (match g f.type with
   | some t => if P.cellsOf f.type = t.w then (match shFs P g (off + t.w) fs with
    | some r => some (.pair t r)
    | none => none) else none
   | none => none) else none
def repT (t : DT) : Nat → DT
 | 0 => .unit
 | n + 1 => .pair t (repT t n)
theorem repT_w (t : DT) : ∀ n, (repT t n).w = n * t.w
 | 0 => by simp [repT, DT.w]
 | n + 1 => by rw [repT, DT.w, repT_w t n, Nat.succ_mul, Nat.add_comm]
def shapeOf (P : Program) : Nat → TypeId → Option DT
 | 0, _ => none
 | d + 1, t => match P.underlying t with
  | some (.int k) => some (.int k)
  | some .bool => some .bool
  | some .string => some .str
  | some (.struct fs) => (match shFs P (shapeOf P d) 0 fs.toList with
    | some r => if P.cellsOf t = r.w then some r else none
    | none => none)
  | some (.array n e) => (match shapeOf P d e with
    | some r => if P.cellsOf e = r.w ∧ P.cellsOf t = n * r.w then some (repT r n) else none
    | none => none)
  | some (.slice e) => (match shapeOf P d e with
    | some r => if P.cellsOf e = r.w ∧ 0 < r.w then some (.list r) else none
    | none => none)
  | _ => none
section
variable {H : Type} {enc : TypeId × Value → H} {P : Program} {w : World} {G : Nat}
theorem More.refl {μ : BMap} {h : AHeap} (S : Start w μ h G) : More w μ h μ h G := ⟨S, .refl _, .refl _ _⟩
theorem More.trans {μ μ1 μ2 : BMap} {h h1 h2 : AHeap} (a : More w μ h μ1 h1 G) (b : More w μ1 h1 μ2 h2 G) : More w μ h μ2 h2 G := ⟨b.st, a.le.trans b.le, a.kp.trans b.kp⟩
def Opened (w : World) (G : Nat) (μ : BMap) (h : AHeap) (T : DT) (cs' : List Value) : Prop :=
 ∃ μ' h' v cs, More w μ h μ' h' G ∧ VRs μ' cs cs' ∧ Rep h' T v cs
def OpenAt (enc : TypeId × Value → H) (P : Program) (w : World) (G d : Nat) : Prop :=
 ∀ (t : TypeId) (T : DT), shapeOf P d t = some T → ∀ (μ : BMap) (h : AHeap), Start w μ h G → ∀ (n : Nat) (cs' : List Value) (x : DataW H × List MemPlace), DataW.trod enc P w 0 (fun _ => true) true n t cs' = some x → Opened w G μ h T cs'
theorem Opened.pair {μ : BMap} {h : AHeap} {a b : DT} {l : List Value} {off : Nat} (o1 : Opened w G μ h a ((l.drop off).take a.w))
  (o2 : ∀ μ' h', More w μ h μ' h' G → Opened w G μ' h' b ((l.drop (off + a.w)).take b.w)) : Opened w G μ h (.pair a b) ((l.drop off).take (a.w + b.w)) := by
 obtain ⟨μ1, h1, v1, c1, m1, r1, p1⟩ := o1
 obtain ⟨μ2, h2, v2, c2, m2, r2, p2⟩ := o2 μ1 h1 m1
 refine ⟨μ2, h2, (v1, v2), c1 ++ c2, m1.trans m2, ?_, c1, c2, rfl, p1.keeps m2.kp, p2⟩
 rw [List.take_add, List.drop_drop]
 exact (r1.mono m2.le).append r2
theorem open_fields {d : Nat} (ih : OpenAt enc P w G d) {n : Nat} {l : List Value} : ∀ (fs : List Field) (off : Nat) (T : DT), shFs P (shapeOf P d) off fs = some T →
  (∀ (i : Nat) f, fs[i]? = some f → ∃ x, DataW.trod enc P w 0 (fun _ => true) true n f.type ((l.drop f.offset).take (P.cellsOf f.type)) = some x) → ∀ (μ : BMap) (h : AHeap), Start w μ h G → Opened w G μ h T ((l.drop off).take T.w)
 | [], off, T, hs, _, μ, h, S => by
  simp only [shFs, Option.some.injEq] at hs; subst hs
  exact ⟨μ, h, (), [], .refl S, by simp [DT.w]; exact .nil _, rfl⟩
 | f :: fs, off, T, hs, hx, μ, h, S => by
  simp only [shFs] at hs
  split at hs
  ·rename_i ho
   split at hs
   ·rename_i t ht
    split at hs
    ·rename_i hw
     split at hs
     ·rename_i r hr
      cases hs
      obtain ⟨x, q⟩ := hx 0 f rfl
      rw [ho, hw] at q
      exact .pair (ih _ _ ht μ h S _ _ _ q) fun μ' h' m => open_fields ih fs _ r hr (fun i f' hi => hx (i + 1) f' (by simpa using hi)) μ' h' m.st
     ·cases hs
    ·cases hs
   ·cases hs
  ·cases hs
theorem open_items {d : Nat} (ih : OpenAt enc P w G d) {e : TypeId} {t : DT} (he : shapeOf P d e = some t) {n : Nat} {l : List Value} : ∀ (m k : Nat),
  (∀ i, i < m → ∃ x, DataW.trod enc P w 0 (fun _ => true) true n e ((l.drop ((k + i) * t.w)).take t.w) = some x) → ∀ (μ : BMap) (h : AHeap), Start w μ h G → Opened w G μ h (repT t m) ((l.drop (k * t.w)).take (repT t m).w)
 | 0, k, _, μ, h, S => ⟨μ, h, (), [], .refl S, by simp [repT, DT.w]; exact .nil _, rfl⟩
 | m + 1, k, hx, μ, h, S => by
  obtain ⟨x, q⟩ := hx 0 (by omega)
  rw [Nat.add_zero] at q
  refine .pair (ih _ _ he μ h S _ _ _ q) fun μ' h' mm => ?_
  rw [← Nat.succ_mul]
  exact open_items ih he m (k + 1) (fun i hi => by
   obtain ⟨x, q⟩ := hx (i + 1) (by omega)
   exact ⟨x, by rw [show k + 1 + i = k + (i + 1) by omega]; exact q⟩) μ' h' mm.st
theorem open_seq {T : DT} {ci : Nat → List Value} : ∀ (m : Nat), (∀ i, i < m → ∀ (μ : BMap) (h : AHeap), Start w μ h G → Opened w G μ h T (ci i)) → ∀ (μ : BMap) (h : AHeap), Start w μ h G →
  ∃ μ' h', ∃ (vs : List T.V) (cc : List (List Value)), More w μ h μ' h' G ∧ vs.length = m ∧ cc.length = m ∧ ∀ i, i < m → ∃ v c, vs[i]? = some v ∧ cc[i]? = some c ∧ VRs μ' c (ci i) ∧ Rep h' T v c
 | 0, _, μ, h, S => ⟨μ, h, [], [], .refl S, rfl, rfl, fun i hi => by omega⟩
 | m + 1, hx, μ, h, S => by
  obtain ⟨μ1, h1, vs, cc, m1, l1, l2, a1⟩ := open_seq m (fun i hi => hx i (by omega)) μ h S
  obtain ⟨μ2, h2, v, c, m2, r2, p2⟩ := hx m (by omega) μ1 h1 m1.st
  refine ⟨μ2, h2, vs ++ [v], cc ++ [c], m1.trans m2, by simp [l1], by simp [l2], fun i hi => ?_⟩
  by_cases hm : i < m
  ·obtain ⟨v', c', q1, q2, q3, q4⟩ := a1 i hm
   exact ⟨v', c', by rw [List.getElem?_append_left (by omega)]; exact q1, by rw [List.getElem?_append_left (by omega)]; exact q2, q3.mono m2.le, q4.keeps m2.kp⟩
  ·obtain rfl : i = m := by omega
   exact ⟨v, c, by rw [← l1]; simp, by rw [← l2]; simp, r2, p2⟩
theorem flatten_at {W : Nat} : ∀ {cc : List (List Value)}, (∀ c ∈ cc, c.length = W) → ∀ {i : Nat} {c : List Value}, cc[i]? = some c → ∀ (j : Nat) (v : Value), c[j]? = some v → cc.flatten[i * W + j]? = some v
 | [], _, i, c, h, _, _, _ => by simp at h
 | x :: cc, hw, 0, c, h, j, v, hv => by
  simp at h; subst h
  have hj : j < x.length := (List.getElem?_eq_some_iff.1 hv).1
  rw [List.flatten_cons, Nat.zero_mul, Nat.zero_add, List.getElem?_append_left hj]; exact hv
 | x :: cc, hw, i + 1, c, h, j, v, hv => by
  have := flatten_at (fun c hc => hw c (List.mem_cons_of_mem _ hc)) (cc := cc) (i := i) (c := c) (by simpa using h) j v hv
  have hx := hw x (List.mem_cons_self ..)
  rw [List.flatten_cons, List.getElem?_append_right (by rw [hx, Nat.succ_mul]; omega), hx, show (i + 1) * W + j - W = i * W + j by rw [Nat.succ_mul]; omega]
  exact this
theorem flatten_from {W : Nat} : ∀ {cc : List (List Value)}, (∀ c ∈ cc, c.length = W) → ∀ {k : Nat} {v : Value}, cc.flatten[k]? = some v → ∃ i j c, cc[i]? = some c ∧ c[j]? = some v ∧ k = i * W + j
 | [], _, k, v, h => by simp at h
 | x :: cc, hw, k, v, h => by
  have hx := hw x (List.mem_cons_self ..)
  rw [List.flatten_cons] at h
  by_cases hk : k < x.length
  ·rw [List.getElem?_append_left hk] at h
   exact ⟨0, k, x, rfl, h, by simp⟩
  ·rw [List.getElem?_append_right (by omega)] at h
   obtain ⟨i, j, c, h1, h2, h3⟩ := flatten_from (fun c hc => hw c (List.mem_cons_of_mem _ hc)) h
   exact ⟨i + 1, j, c, by simpa using h1, h2, by rw [Nat.succ_mul]; omega⟩
theorem add_add (a : Addr) (m j : Nat) : (a.add m).add j = a.add (m + j) := by
 simp only [Addr.add]
 by_cases h1 : m = 0
 ·subst h1; simp
 ·by_cases h2 : j = 0
  ·subst h2; simp
  ·simp [h1, h2, Nat.add_assoc]
theorem open_all : ∀ d, OpenAt enc P w G d
 | 0 => fun t T h => by simp [shapeOf] at h
 | d + 1 => by
  intro t T hT μ h S n cs' x hf
  simp only [shapeOf] at hT
  split at hT
  ·rename_i k hk
   cases hT
   obtain ⟨m, rfl, _, _⟩ := DataW.trod_int hk hf
   exact ⟨μ, h, m, [.int k m], .refl S, .cons (.int _ _) (.nil _), rfl⟩
  ·rename_i hk
   cases hT
   obtain ⟨m, rfl, _⟩ := DataW.trod_bool hk hf
   exact ⟨μ, h, m, [.bool m], .refl S, .cons (.bool _) (.nil _), rfl⟩
  ·rename_i hk
   cases hT
   obtain ⟨m, rfl, _, _⟩ := DataW.trod_string hk hf
   exact ⟨μ, h, m, [.string m], .refl S, .cons (.str _) (.nil _), rfl⟩
  ·rename_i fs hk
   split at hT
   ·rename_i r hr
    split at hT
    ·rename_i hw
     have hT := Option.some.inj hT
     subst hT
     obtain ⟨xs, m, rfl, _, hl, hxl, hall⟩ := DataW.trod_struct hk hf
     have := open_fields (open_all d) (l := cs') (n := m) fs.toList 0 r hr (fun i f hi => by
      have hi' : fs[i]? = some f := by simpa using hi
      have hlt : i < xs.length := by rw [hxl]; exact (Array.getElem?_eq_some_iff.1 hi').1
      exact ⟨xs[i], by rw [hall i f hi']; simp [hlt]⟩) μ h S
     rw [List.drop_zero, ← hw, ← hl, List.take_length] at this
     exact this
    ·cases hT
   ·cases hT
  ·rename_i m e hk
   split at hT
   ·rename_i r hr
    split at hT
    ·rename_i hw
     cases hT
     obtain ⟨xs, mm, rfl, _, hl, hxl, hall⟩ := DataW.trod_array hk hf
     have := open_items (open_all d) hr (l := cs') (n := mm) m 0 (fun i hi => by
      refine ⟨xs[i]'(by omega), ?_⟩
      have := hall i hi
      rw [hw.1] at this
      rw [Nat.zero_add, this]; simp [hxl, hi]) μ h S
     rw [Nat.zero_mul, List.drop_zero, repT_w, ← hw.2, ← hl, List.take_length] at this
     exact this
    ·cases hT
   ·cases hT
  ·rename_i e hk
   split at hT
   ·rename_i r hr
    split at hT
    ·rename_i hw
     cases hT
     obtain ⟨hwc, hw0⟩ := hw
     rcases DataW.trod_slice hk hf with ⟨rfl, _⟩ | ⟨a, len, cap, elems, rest, m, _, rfl, _, _, hl, _, hlen, hel, hsp, _⟩
     ·exact ⟨μ, h, [], [.slice none 0 0], .refl S, .cons .nilSlice (.nil _), ⟨none, 0, 0⟩, rfl, rfl, (fun a ha => by cases ha), fun i x hx => by simp at hx⟩
     ·obtain ⟨hrl, hrest⟩ := hsp rfl
      have each : ∀ i, i < cap → ∃ ci x, w.cells? 0 (a.add (i * r.w)) r.w = some ci ∧ DataW.trod enc P w 0 (fun _ => true) true m e ci = some x := by
       intro i hi
       have hb : ∃ x, (w.cells? 0 (a.add (i * P.cellsOf e)) (P.cellsOf e)).bind (DataW.trod enc P w 0 (fun _ => true) true m e) = some x := by
        by_cases hil : i < len
        ·exact ⟨elems[i]'(by omega), by rw [hel i hil]; simp [hlen, hil]⟩
        ·have := hrest (i - len) (by omega)
         rw [show len + (i - len) = i by omega] at this
         exact ⟨rest[i - len]'(by omega), by rw [this]; simp⟩
       obtain ⟨x, hx⟩ := hb
       rw [hwc] at hx
       obtain ⟨ci, h1, h2⟩ := Option.bind_eq_some_iff.1 hx
       exact ⟨ci, x, h1, h2⟩
      have each' : ∀ i, i < cap → ((w.cells? 0 (a.add (i * r.w)) r.w).getD []).length = r.w ∧ (∀ j, j < r.w → w.cell? (a.add (i * r.w + j)) = ((w.cells? 0 (a.add (i * r.w)) r.w).getD [])[j]?) := by
       intro i hi
       obtain ⟨ci, x, h1, _⟩ := each i hi
       obtain ⟨_, q1, q2⟩ := World.cells?_some h1
       rw [h1, Option.getD_some]
       refine ⟨q1, fun j hj => ?_⟩
       have := q2 j hj
       rw [← this]
       rw [add_add]
      obtain ⟨μ1, h1, vs, cc, m1, lv, lc, al⟩ := open_seq (T := r) (ci := fun i => (w.cells? 0 (a.add (i * r.w)) r.w).getD []) cap (fun i hi μ h S => by
       obtain ⟨ci, x, q1, q2⟩ := each i hi
       simp only [q1, Option.getD_some]
       exact open_all d _ _ hr μ h S _ _ _ q2) μ h S
      have S1 := m1.st
      by_cases h0 : cap = 0
      ·subst h0
       obtain rfl : len = 0 := by omega
       refine ⟨_, h1.hole, [], [.slice (some ⟨h1.next, 0, none⟩) 0 0], ⟨S1.hole (0, 0, 0), m1.le.trans (BMap.put_le (S1.z _ (Nat.le_refl _))), m1.kp.trans (Keeps.hole h1)⟩, .cons (.empty fun _ => rfl) (.nil _), ⟨some ⟨h1.next, 0, none⟩, 0, 0⟩, rfl, rfl, fun a ha => ?_, fun i x hx => by simp at hx⟩
       cases ha; exact Nat.lt_succ_self _
      ·have c0 : ∃ v, w.cell? (a.add 0) = some v := by
        have := (each' 0 (by omega)).2 0 hw0
        rw [Nat.zero_mul] at this
        have hlt : 0 < ((w.cells? 0 (a.add 0) r.w).getD []).length := by
         have := (each' 0 (by omega)).1
         rw [Nat.zero_mul] at this; omega
        refine ⟨((w.cells? 0 (a.add 0) r.w).getD [])[0], ?_⟩
        rw [this]; simp [hlt]
       obtain ⟨v0, c0⟩ := c0
       obtain ⟨b, off, sp⟩ := a
       have hsp : sp = none := by simpa [Addr.add] using World.cell?_spot c0
       subst hsp
       obtain ⟨arr, ee, fz, hO⟩ : ∃ arr e fz, w.heap[b]? = some (.cells arr e fz) := by
        have := c0
        rw [add_plain] at this
        unfold World.cell? at this
        split at this
        ·rename_i c e fz hh; exact ⟨c, e, fz, hh⟩
        ·cases this
       have hcc : ∀ c ∈ cc, c.length = r.w := by
        intro c hc
        obtain ⟨i, hi⟩ := List.mem_iff_getElem?.1 hc
        have hlt : i < cap := by rw [← lc]; exact (List.getElem?_eq_some_iff.1 hi).1
        obtain ⟨v, c', _, q2, _, q4⟩ := al i hlt
        rw [hi] at q2; cases q2
        exact q4.len
       have A := S1.add (d := off) (cs := cc.flatten) hO (fun k v hv => by
        obtain ⟨i, j, c, q1, q2, rfl⟩ := flatten_from hcc hv
        have hlt : i < cap := by rw [← lc]; exact (List.getElem?_eq_some_iff.1 q1).1
        obtain ⟨v', c', _, r2, r3, _⟩ := al i hlt
        rw [q1] at r2; cases r2
        obtain ⟨u, u1, u2⟩ := r3.get q2
        have hj : j < r.w := by
         have := (List.getElem?_eq_some_iff.1 u1).1
         rw [(each' i hlt).1] at this; exact this
        have hc := (each' i hlt).2 j hj
        rw [u1, add_plain] at hc
        unfold World.cell? at hc
        rw [hO] at hc
        exact ⟨u, by simpa using hc, u2⟩)
       refine ⟨_, _, vs.take len, [.slice (some ⟨h1.next, 0, none⟩) len cap], ⟨A, m1.le.trans (BMap.put_le (S1.z _ (Nat.le_refl _))), m1.kp.trans (Keeps.new h1 _)⟩, .cons (.slice (put_self _ _ _) rfl) (.nil _), ⟨some ⟨h1.next, 0, none⟩, len, cap⟩, rfl, ?_, fun a ha => ?_, fun i x hx => ?_⟩
       ·show len = _; rw [List.length_take]; omega
       ·cases ha; simp
       ·rw [List.getElem?_take] at hx
        split at hx
        ·rename_i hi
         obtain ⟨v, c, q1, q2, _, q4⟩ := al i (by omega)
         rw [hx] at q1; cases q1
         refine ⟨_, cc.flatten, ee, false, 0, c, rfl, by simp, q4.len, fun j u hu => ?_, q4.keeps (Keeps.new h1 _)⟩
         rw [Nat.zero_add]
         exact flatten_at hcc q2 j u hu
        ·cases hx
    ·cases hT
   ·cases hT
  ·cases hT
theorem Start.data {μ : BMap} {h : AHeap} (S : Start w μ h G) {t : TypeId} {T : DT} {d : Nat} (hT : shapeOf P d t = some T) {v : Value} {dd : DataW H} {ps : List MemPlace} (hd : DataW.Trod enc P w 0 (fun _ => true) true t v dd ps) :
  ∃ μ' h' x cs, More w μ h μ' h' G ∧ VRs μ' cs v.cells.toList ∧ Rep h' T x cs := by
 obtain ⟨fuel, hf⟩ := hd
 obtain ⟨μ', h', x, cs, m, r, p⟩ := open_all d t T hT μ h S _ _ _ hf
 exact ⟨μ', h', x, cs, m, r, p⟩
theorem Start.dataL {μ : BMap} {h : AHeap} (S : Start w μ h G) {t e : TypeId} {T : DT} {d : Nat} (hT : shapeOf P d t = some (.list T)) (ht : P.underlying t = some (.slice e)) {r : Reach} {base : Nat} {v : Value} {dd : DataW H} {ps : List MemPlace} (hval : Value.okWide P w r base t v) (hd : DataW.Trod enc P w 0 (fun _ => true) true t v dd ps) :
  ∃ (μ' : BMap) (h' : AHeap) (s : Slc) (xs : List T.V), More w μ h μ' h' G ∧ VR μ' (.slice s.a s.len s.cap) v ∧ Rep h' (.list T) xs [.slice s.a s.len s.cap] := by
 obtain ⟨a0, len, cap, rfl⟩ := okWide_slice ht hval
 obtain ⟨μ', h', x, cs, m, vr, p⟩ := S.data hT hd
 have p0 := p
 obtain ⟨sl, rfl, _⟩ := p
 refine ⟨μ', h', sl, x, m, ?_, p0⟩
 obtain ⟨v', t', e', h1, h2⟩ := vr.cons_inv
 simp [Value.cells] at e'
 rw [e'.1]; exact h1
end
theorem Rep.rowI {h : AHeap} {s : Slc} {xs : List Int} {k : IntKind} (r : Rep h (.list (.int k)) xs [.slice s.a s.len s.cap]) : Row (fun x => .int k x) h s xs := by
 obtain ⟨sl, e, hl, hb, hx⟩ := r
 simp at e
 obtain ⟨e1, e2, e3⟩ := e
 refine ⟨e2.trans hl, fun i x hi => ?_⟩
 obtain ⟨a, c, ee, r, fz, cx, h1, h2, _, h4, h5⟩ := hx i x hi
 have h5 : cx = [.int k x] := h5
 have := h4 0 (.int k x) (by rw [h5]; rfl)
 rw [DT.w, Nat.mul_one, Nat.add_zero] at this
 exact ⟨a, c, ee, r, fz, e1.trans h1, hb a h1, h2, this⟩
theorem Rep.lt {h : AHeap} {t : DT} {xs : List t.V} {s : Slc} (r : Rep h (.list t) xs [.slice s.a s.len s.cap]) : ∀ a, s.a = some a → a.block < h.next := by
 obtain ⟨sl, e, hl, hb, hx⟩ := r
 simp at e
 obtain ⟨e1, e2, e3⟩ := e
 intro a ha
 exact hb a (e1.symm.trans ha)
theorem Rep.rowW {h : AHeap} {t : DT} {s : Slc} {xs : List t.V} {α : Type} {f : t.V → α} {enc : α → List Value} (r : Rep h (.list t) xs [.slice s.a s.len s.cap]) (he : ∀ x cs, Rep h t x cs → cs = enc (f x)) : RowW t.w enc h s (xs.map f) := by
 obtain ⟨sl, e, hl, hb, hx⟩ := r
 simp at e
 obtain ⟨e1, e2, e3⟩ := e
 refine ⟨by rw [e2, hl, List.length_map], fun i y hi => ?_⟩
 rw [List.getElem?_map] at hi
 cases hx0 : xs[i]? with
 | none => rw [hx0] at hi; cases hi
 | some x =>
  rw [hx0] at hi; cases hi
  obtain ⟨a, c, ee, r, fz, cx, h1, h2, _, h4, h5⟩ := hx i x hx0
  have := he x cx h5
  exact ⟨a, c, ee, r, fz, e1.trans h1, hb a h1, h2, fun j v hv => h4 j v (by rw [this]; exact hv)⟩
end Gx
namespace Gx
open Go Go.RowKit Go.ChangeShapes Go.WideShapes
section
variable {H : Type} {enc : TypeId × Value → H} {P : Program} {w : World} {r : Reach} {base : Nat} {t e : TypeId} {v : Value} {d : DataW H} {ps : List MemPlace} {μ : BMap} {h : AHeap}
theorem Start.intsT {G : Nat} (S : Start w μ h G) (ht : P.underlying t = some (.slice e)) (he : P.underlying e = some (.int .i64)) (hc : P.cellsOf e = 1) {fuel : Nat} {x : DataW H × List MemPlace} (hf : DataW.trod enc P w 0 (fun _ => true) true fuel t [v] = some x) :
  ∃ μ' h' s, ∃ ls : List Int, More w μ h μ' h' G ∧ v = .slice (match v with | .slice a _ _ => a | _ => none) (match v with | .slice _ n _ => n | _ => 0) (match v with | .slice _ _ c => c | _ => 0) ∧ VR μ' (.slice s.a s.len s.cap) v ∧ Row encI h' s ls ∧ (∀ b, s.a = some b → b.block < h'.next ∧ h.next ≤ b.block) ∧ (ls = [] ∨ ∃ sp, x.1 = .slice (lits .i64 ls) sp) := by
 rcases open_ints ht he hc hf with ⟨hcs, hx⟩ | ⟨a, len', cap', ss, hcs, _, hl, hm, hz, hx, hcell, hwf⟩
 ·simp at hcs
  subst hcs
  exact ⟨μ, h, ⟨none, 0, 0⟩, [], ⟨S, .refl _, .refl _ _⟩, rfl, .nilSlice, Row.nil _ _ _ _, by simp, .inl rfl⟩
 ·simp at hcs
  subst hcs
  simp only [if_true] at hz
  obtain ⟨μ', h', s, m, vr, R, bb⟩ := S.row (enc := encI) (fun _ => rfl) hz hl (fun i x hx => by
   have := hcell i (List.getElem?_eq_some_iff.1 hx).1
   rw [this, List.getD_eq_getElem?_getD, hx]; rfl)
  exact ⟨μ', h', s, _, m, rfl, vr, R, bb, .inr ⟨_, (congrArg Prod.fst hx)⟩⟩
theorem open_three {f0 f1 f2 : Field} (ht : P.underlying t = some (.struct #[f0, f1, f2])) (h3 : P.cellsOf t = 3) (o0 : f0.offset = 0) (o1 : f1.offset = 1) (o2 : f2.offset = 2) (k0 : P.cellsOf f0.type = 1) (k1 : P.cellsOf f1.type = 1) (k2 : P.cellsOf f2.type = 1)
  (hval : Value.okWide P w r base t v) (hd : DataW.Trod enc P w 0 (fun _ => true) true t v d ps) :
  ∃ c0 c1 c2 n y0 y1 y2, v = .agg #[c0, c1, c2] ∧ DataW.trod enc P w 0 (fun _ => true) true n f0.type [c0] = some y0 ∧ DataW.trod enc P w 0 (fun _ => true) true n f1.type [c1] = some y1 ∧ DataW.trod enc P w 0 (fun _ => true) true n f2.type [c2] = some y2 ∧ d = .agg [y0.1, y1.1, y2.1] := by
 obtain ⟨cs, rfl, hs⟩ := okWide_struct ht hval
 rw [h3] at hs
 obtain ⟨l⟩ := cs
 match l, hs with
 | [c0, c1, c2], _ =>
  obtain ⟨fuel, hf⟩ := hd
  obtain ⟨xs, n, rfl, hx, _, hl, hall⟩ := DataW.trod_struct ht hf
  match xs, hl with
  | [y0, y1, y2], _ =>
   refine ⟨c0, c1, c2, n, y0, y1, y2, rfl, ?_, ?_, ?_, ?_⟩
   ·have := hall 0 f0 rfl
    rw [o0, k0] at this
    simpa [Value.cells] using this
   ·have := hall 1 f1 rfl
    rw [o1, k1] at this
    simpa [Value.cells] using this
   ·have := hall 2 f2 rfl
    rw [o2, k2] at this
    simpa [Value.cells] using this
   ·exact congrArg Prod.fst hx
theorem Start.mat {G : Nat} (S : Start w μ h G) {f0 f1 f2 : Field} {e0 e1 e2 : TypeId} (ht : P.underlying t = some (.struct #[f0, f1, f2])) (h3 : P.cellsOf t = 3) (o0 : f0.offset = 0) (o1 : f1.offset = 1) (o2 : f2.offset = 2) (t0 : f0.type = e0) (t1 : f1.type = e1) (t2 : f2.type = e2)
  (u0 : P.underlying e0 = some (.int .i64)) (u1 : P.underlying e1 = some (.int .i64)) (u2 : P.underlying e2 = some (.slice e)) (ue : P.underlying e = some (.int .i64)) (k0 : P.cellsOf e0 = 1) (k1 : P.cellsOf e1 = 1) (k2 : P.cellsOf e2 = 1) (ke : P.cellsOf e = 1)
  (hval : Value.okWide P w r base t v) (hd : DataW.Trod enc P w 0 (fun _ => true) true t v d ps) :
  ∃ μ' h' s, ∃ r c : Int, ∃ ls : List Int, More w μ h μ' h' G ∧ VR μ' (.agg #[.int .i64 r, .int .i64 c, .slice s.a s.len s.cap]) v ∧ Row encI h' s ls ∧ (∀ b, s.a = some b → b.block < h'.next ∧ h.next ≤ b.block) := by
 subst t0 t1 t2
 obtain ⟨c0, c1, c2, n, y0, y1, y2, rfl, q0, q1, q2, _⟩ := open_three ht h3 o0 o1 o2 k0 k1 k2 hval hd
 obtain ⟨r, e0, _, _⟩ := DataW.trod_int u0 q0
 obtain ⟨c, e1, _, _⟩ := DataW.trod_int u1 q1
 simp at e0 e1
 subst e0 e1
 obtain ⟨μ', h', s, ls, m, _, V, R, b, _⟩ := S.intsT u2 ue ke q2
 refine ⟨μ', h', s, r, c, ls, m, .agg rfl fun i x x' hx hx' => ?_, R, b⟩
 match i with
 | 0 => simp at hx hx'; subst hx hx'; exact .int _ _
 | 1 => simp at hx hx'; subst hx hx'; exact .int _ _
 | 2 => simp at hx hx'; subst hx hx'; exact V
 | i + 3 => simp at hx
end
end Gx
namespace Gx
open Go Go.RowKit Go.ChangeShapes Go.WideShapes
section
variable {H : Type} {enc : TypeId × Value → H} {P : Program} {w : World} {r : Reach} {base : Nat} {t e : TypeId} {v : Value} {d : DataW H} {ps : List MemPlace} {μ : BMap}
theorem open_duo (hk : P.underlying t = some (.array 2 e)) (he : P.underlying e = some (.int .i64)) (h1 : P.cellsOf e = 1) (h2 : P.cellsOf t = 2) (hval : Value.okWide P w r base t v) (hd : DataW.Trod enc P w 0 (fun _ => true) true t v d ps) :
  ∃ a b : Int, v = .agg #[.int .i64 a, .int .i64 b] ∧ VR μ (.agg #[.int .i64 a, .int .i64 b]) v := by
 obtain ⟨c0, c1, n, y0, y1, rfl, q0, q1⟩ := open_two hk h1 h2 hval hd
 obtain ⟨a, ea, _, _⟩ := DataW.trod_int he q0
 obtain ⟨b, eb, _, _⟩ := DataW.trod_int he q1
 simp at ea eb
 subst ea eb
 refine ⟨a, b, rfl, .agg rfl fun i x x' hx hx' => ?_⟩
 match i with
 | 0 => simp at hx hx'; subst hx hx'; exact .int _ _
 | 1 => simp at hx hx'; subst hx hx'; exact .int _ _
 | i + 2 => simp at hx
end
end Gx
namespace Gx
open Go Go.RowKit Go.ChangeShapes Go.WideShapes
section
variable {H : Type} {enc : TypeId × Value → H} {P : Program} {w : World} {r : Reach} {base : Nat} {t e : TypeId} {v : Value} {d : DataW H} {ps : List MemPlace}
end
end Gx
