import Derived.Scope
import Derived.KernelRfl
import Derived.Defers
import Derived.Laws.LoneSync
import Derived.Below
import Derived.Lib.Repeat
import Derived.Lib.Join
import Derived.Sort.KeysCollected
import Derived.Shelf.SlIter.Nil
import Derived.Shelf.Strconv.Itoa3
import Derived.SizedLaws
import Derived.SliceStrings
import Derived.ChangeSlices
import Derived.ChangeOld
import Derived.Carry
import Derived.OpenShut
import Derived.ShutString
import Derived.DataReads
import Derived.ChangeBears2
import Derived.MakeChecks
import Derived.Test.YtkmfdiabghpejaaDoorGx2
namespace Gx
open Go
section
variable {ds : List Deferred} {G : Nat} {P : Program} {R : Type} {r : R} {C : CallF}
theorem appL_const {L : Slots} {f : PFr} {h : AHeap} (e : appL L f (constL (fun _ => (none : Option R)) L) h = some r) : False := by
 induction L generalizing f h with
 | nil => simp [appL, constL] at e
 | cons p L ih =>
  obtain ⟨s, t⟩ := p
  simp only [appL, constL] at e
  split at e
  ·simp only [Option.bind_eq_some_iff] at e
   obtain ⟨x, _, e⟩ := e
   exact ih e
  ·cases e
theorem appL_lam {L : Slots} : ∀ {f f0 : PFr} {b : PFr → AHeap → Option R} {h : AHeap}, (∀ s v, f0 s = some v → f s = some v) → appL L f (lamL L f0 b) h = some r →
  ∃ g, (∀ s v, g s = some v → f s = some v) ∧ b g h = some r := by
 induction L with
 | nil => intro f f0 b h hs e; exact ⟨f0, hs, e⟩
 | cons p L ih =>
  obtain ⟨s, t⟩ := p
  intro f f0 b h hs e
  simp only [appL, lamL] at e
  split at e
  ·rename_i v hv
   simp only [Option.bind_eq_some_iff] at e
   obtain ⟨x, hx, e⟩ := e
   have hx' := LTy.enc_dec hx
   refine ih (fun s' v' h' => ?_) e
   unfold pset at h'
   cases hb : Nat.beq s' s
   ·rw [hb] at h'; exact hs _ _ h'
   ·rw [hb] at h'
    have : s' = s := Nat.eq_of_beq_eq_true hb
    subst this; cases h'; rw [hx']; exact hv
  ·cases e
theorem rcode_region {n id : Nat} {ops : Array Oper} {draw : Bool} {x : RCode} (h : rcodeOf P G n (.region id ops draw) = some x) : (∃ ros, x = .region ros) ∨ (∃ es, x = .draw es) ∨ (∃ m es, x = .gdraw m es) := by
 simp only [rcodeOf] at h
 split at h
 ·unfold drawC at h
  split at h
  ·cases h; exact .inr (.inl ⟨_, rfl⟩)
  ·split at h
   ·cases h; exact .inr (.inr ⟨_, _, rfl⟩)
   ·cases h
 ·rw [Option.map_eq_some_iff] at h
  obtain ⟨ros, _, rfl⟩ := h
  exact .inl ⟨_, rfl⟩
theorem rcode_region_t {n : Nat} {ops : Array Oper} {ros : List RO} (h : drawC P G n ops = some (.region ros)) : False := by
 unfold drawC at h
 split at h
 ·cases h
 ·split at h <;> cases h
theorem rounds_mono {c : Code} {Q Q' : Exit → Act → World → Prop} (hq : ∀ x a w, Q x a w → Q' x a w) : ∀ (m : Nat) (a : Act) (w : World), Code.rounds P c Q m a w → Code.rounds P c Q' m a w
 | 0, _, _, h => h
 | m + 1, a, w, h => by
  rw [rounds_succ] at h ⊢
  refine wp_mono h fun e a w he => ?_
  cases e <;> first | exact rounds_mono hq m a w he | exact hq _ _ _ he
theorem den_sound (hC : CSound P G C) {n k : Nat} : ∀ (rc : RCode) (c : Code) (f : PFr) (h : AHeap) (κ : AExit → PFr → AHeap → Option R) (r : R), rcodeOf P G n c = some (strip rc) → den C k rc f h κ = some r →
  ∃ e f' h', κ e f' h' = some r ∧ RunS P G n c f h e f' h' := by
 intro rc
 induction rc with
 | skip =>
  intro c f h κ r hc hd
  refine ⟨.normal, f, h, hd, Nat.le_refl _, fun μ a w t z => ?_⟩
  cases c with
  | skip => exact wp_skip ⟨rfl, μ, t, .refl t.sim⟩
  | label l => exact wp_label ⟨rfl, μ, t, .refl t.sim⟩
  | region id ops draw => obtain ⟨_, e⟩ | ⟨_, e⟩ | ⟨_, _, e⟩ := rcode_region hc <;> simp [strip] at e
  | seq a b => simp only [rcodeOf] at hc; split at hc <;> (try cases hc); split at hc <;> simp [strip] at hc
  | cond c a b => simp only [rcodeOf] at hc; split at hc <;> (try cases hc); split at hc <;> simp [strip] at hc
  | block id c => simp [rcodeOf, strip] at hc
  | loop c => simp [rcodeOf, strip] at hc
  | scope c => simp [rcodeOf, strip] at hc
  | exit id => simp [rcodeOf, strip] at hc
  | ret => simp [rcodeOf, strip] at hc
  | goto l => simp [rcodeOf, strip] at hc
  | refuse w => simp [rcodeOf, strip] at hc
  | rangeFunc _ _ _ _ => simp [rcodeOf, strip] at hc
 | region ros =>
  intro c f h κ r hc hd
  cases c with
  | region id ops draw =>
   simp only [rcodeOf] at hc
   cases draw with
   | true => exact (rcode_region_t (by simpa [strip] using hc)).elim
   | false =>
    simp [strip] at hc
    obtain ⟨f', h', hk, hn, hrun⟩ := dops_sound hC (n := n) (ops := ops) ops.toList (List.range ops.size) ros f h (fun f h => κ .normal f h) (by simp) (fun i o hi => by
     have hlt : i < ops.size := by simpa using (List.getElem?_eq_some_iff.1 hi).1
     exact ⟨i, by simp [hlt], by simpa using hi⟩) hc hd
    refine ⟨.normal, f', h', hk, hn, fun μ a w t z => wp_region (wpOps_mono (fun x a' w' ⟨e, q⟩ => ⟨e, q⟩) _ _ _ (hrun μ a w t z))⟩
  | skip => simp [rcodeOf, strip] at hc
  | label l => simp [rcodeOf, strip] at hc
  | seq a b => simp only [rcodeOf] at hc; split at hc <;> (try cases hc); split at hc <;> simp [strip] at hc
  | cond c a b => simp only [rcodeOf] at hc; split at hc <;> (try cases hc); split at hc <;> simp [strip] at hc
  | block id c => simp [rcodeOf, strip] at hc
  | loop c => simp [rcodeOf, strip] at hc
  | scope c => simp [rcodeOf, strip] at hc
  | exit id => simp [rcodeOf, strip] at hc
  | ret => simp [rcodeOf, strip] at hc
  | goto l => simp [rcodeOf, strip] at hc
  | refuse w => simp [rcodeOf, strip] at hc
  | rangeFunc _ _ _ _ => simp [rcodeOf, strip] at hc
 | draw es =>
  intro c f h κ r hc hd
  cases c with
  | region id ops draw =>
   simp only [rcodeOf] at hc
   cases draw with
   | false => simp [strip] at hc
   | true =>
    simp only [if_true, strip, drawC] at hc
    split at hc
    ·rename_i es0 h1
     simp only [Option.some.injEq, RCode.draw.injEq] at hc
     obtain ⟨f', h', hk, hrun⟩ := draw_sound hC h1 hc.symm hd
     exact ⟨.normal, f', h', hk, hrun⟩
    ·split at hc <;> simp at hc
  | skip => simp [rcodeOf, strip] at hc
  | label l => simp [rcodeOf, strip] at hc
  | seq a b => simp only [rcodeOf] at hc; split at hc <;> (try cases hc); split at hc <;> simp [strip] at hc
  | cond c a b => simp only [rcodeOf] at hc; split at hc <;> (try cases hc); split at hc <;> simp [strip] at hc
  | block id c => simp [rcodeOf, strip] at hc
  | loop c => simp [rcodeOf, strip] at hc
  | scope c => simp [rcodeOf, strip] at hc
  | exit id => simp [rcodeOf, strip] at hc
  | ret => simp [rcodeOf, strip] at hc
  | goto l => simp [rcodeOf, strip] at hc
  | refuse w => simp [rcodeOf, strip] at hc
  | rangeFunc _ _ _ _ => simp [rcodeOf, strip] at hc
 | gdraw m es =>
  intro c f h κ r hc hd
  cases c with
  | region id ops draw =>
   simp only [rcodeOf] at hc
   cases draw with
   | false => simp [strip] at hc
   | true =>
    simp only [if_true, strip, drawC] at hc
    split at hc
    ·simp at hc
    ·split at hc
     ·rename_i es0 h1
      simp only [Option.some.injEq, RCode.gdraw.injEq] at hc
      obtain ⟨f', h', hk, hrun⟩ := gdraw_sound hC h1 hc.2.symm hc.1.symm hd
      exact ⟨.normal, f', h', hk, hrun⟩
     ·simp at hc
  | skip => simp [rcodeOf, strip] at hc
  | label l => simp [rcodeOf, strip] at hc
  | seq a b => simp only [rcodeOf] at hc; split at hc <;> (try cases hc); split at hc <;> simp [strip] at hc
  | cond c a b => simp only [rcodeOf] at hc; split at hc <;> (try cases hc); split at hc <;> simp [strip] at hc
  | block id c => simp [rcodeOf, strip] at hc
  | loop c => simp [rcodeOf, strip] at hc
  | scope c => simp [rcodeOf, strip] at hc
  | exit id => simp [rcodeOf, strip] at hc
  | ret => simp [rcodeOf, strip] at hc
  | goto l => simp [rcodeOf, strip] at hc
  | refuse w => simp [rcodeOf, strip] at hc
  | rangeFunc _ _ _ _ => simp [rcodeOf, strip] at hc
 | seq ra rb iha ihb =>
  intro c f h κ r hc hd
  obtain ⟨a, b, rfl, ha, hb⟩ : ∃ a b, c = .seq a b ∧ rcodeOf P G n a = some (strip ra) ∧ rcodeOf P G n b = some (strip rb) := by
   cases c <;> simp only [rcodeOf] at hc <;> (try (simp [strip] at hc; done))
   case region id ops d => obtain ⟨_, e⟩ | ⟨_, e⟩ | ⟨_, _, e⟩ := rcode_region (id := id) (draw := d) hc <;> simp [strip] at e
   case seq a b =>
    split at hc
    ·cases hc
    ·rename_i x hx
     split at hc
     ·cases hc
     ·rename_i y hy; simp [strip] at hc; exact ⟨a, b, rfl, by rw [hx, hc.1], by rw [hy, hc.2]⟩
   case cond c a b => split at hc <;> (try cases hc); split at hc <;> simp [strip] at hc
  simp only [den] at hd
  obtain ⟨e1, f1, h1, hk1, hn1, hr1⟩ := iha a f h _ r ha hd
  cases e1 with
  | normal =>
   obtain ⟨e2, f2, h2, hk2, hn2, hr2⟩ := ihb b f1 h1 κ r hb hk1
   refine ⟨e2, f2, h2, hk2, Nat.le_trans hn1 hn2, fun μ a' w t z => ?_⟩
   refine wp_seq (wp_mono (hr1 μ a' w t (z.le hn2)) ?_)
   rintro e a1 w1 ⟨rfl, μ1, t1, s1⟩
   refine wp_mono (hr2 μ1 a1 w1 t1 (s1.zed z)) ?_
   rintro e a2 w2 ⟨rfl, μ2, t2, s2⟩
   exact ⟨rfl, μ2, t2, s1.trans s2⟩
  | exit i =>
   refine ⟨.exit i, f1, h1, hk1, hn1, fun μ a' w t z => wp_seq (wp_mono (hr1 μ a' w t z) ?_)⟩
   rintro e a1 w1 ⟨rfl, q⟩; exact ⟨rfl, q⟩
  | ret =>
   refine ⟨.ret, f1, h1, hk1, hn1, fun μ a' w t z => wp_seq (wp_mono (hr1 μ a' w t z) ?_)⟩
   rintro e a1 w1 ⟨rfl, q⟩; exact ⟨rfl, q⟩
 | cond o ra rb iha ihb =>
  intro c f h κ r hc hd
  obtain ⟨a, b, rfl, ha, hb⟩ : ∃ a b, c = .cond o a b ∧ rcodeOf P G n a = some (strip ra) ∧ rcodeOf P G n b = some (strip rb) := by
   cases c <;> simp only [rcodeOf] at hc <;> (try (simp [strip] at hc; done))
   case region id ops d => obtain ⟨_, e⟩ | ⟨_, e⟩ | ⟨_, _, e⟩ := rcode_region (id := id) (draw := d) hc <;> simp [strip] at e
   case seq a b => split at hc <;> (try cases hc); split at hc <;> simp [strip] at hc
   case cond c a b =>
    split at hc
    ·cases hc
    ·rename_i x hx
     split at hc
     ·cases hc
     ·rename_i y hy; simp [strip] at hc; exact ⟨a, b, by rw [hc.1], by rw [hx, hc.2.1], by rw [hy, hc.2.2]⟩
  simp only [den] at hd
  split at hd
  ·rename_i t
   split at hd
   ·rename_i x hx
    have hev : ∀ {ds : List Deferred} (μ : BMap) (a' : Act) (w : World), At ds G μ f h n a' w → a'.eval (.tmp t) = .bool x := fun μ a' w at_ => by
     have := at_.fr t _ hx
     exact vr_bool this
    split at hd
    ·rename_i hxt; subst hxt
     obtain ⟨e1, f1, h1, hk1, hr1⟩ := iha a _ h κ r ha hd
     exact ⟨e1, f1, h1, hk1, hr1.1, fun μ a' w at_ z => wp_cond (hev μ a' w at_) ((hr1.weaken (pset_same hx)).2 μ a' w at_ z)⟩
    ·rename_i hxf
     simp only [Bool.not_eq_true] at hxf; subst hxf
     obtain ⟨e1, f1, h1, hk1, hr1⟩ := ihb b _ h κ r hb hd
     exact ⟨e1, f1, h1, hk1, hr1.1, fun μ a' w at_ z => wp_cond (hev μ a' w at_) ((hr1.weaken (pset_same hx)).2 μ a' w at_ z)⟩
   ·cases hd
  ·rename_i x
   cases x with
   | true =>
    obtain ⟨e1, f1, h1, hk1, hr1⟩ := iha a f h κ r ha hd
    exact ⟨e1, f1, h1, hk1, hr1.1, fun μ a' w at_ z => wp_cond (t := true) rfl (hr1.2 μ a' w at_ z)⟩
   | false =>
    obtain ⟨e1, f1, h1, hk1, hr1⟩ := ihb b f h κ r hb hd
    exact ⟨e1, f1, h1, hk1, hr1.1, fun μ a' w at_ z => wp_cond (t := false) rfl (hr1.2 μ a' w at_ z)⟩
  ·cases hd
 | scope ra iha =>
  intro c f h κ r hc hd
  obtain ⟨a, rfl, ha⟩ : ∃ a, c = .scope a ∧ rcodeOf P G n a = some (strip ra) := by
   cases c <;> simp only [rcodeOf] at hc <;> (try (simp [strip] at hc; done))
   case region id ops d => obtain ⟨_, e⟩ | ⟨_, e⟩ | ⟨_, _, e⟩ := rcode_region (id := id) (draw := d) hc <;> simp [strip] at e
   case seq a b => split at hc <;> (try cases hc); split at hc <;> simp [strip] at hc
   case cond c a b => split at hc <;> (try cases hc); split at hc <;> simp [strip] at hc
   case scope a =>
    simp only [Option.map_eq_some_iff] at hc
    obtain ⟨x, hx, e⟩ := hc
    simp [strip] at e
    exact ⟨a, rfl, by rw [hx, e]⟩
  simp only [den] at hd
  obtain ⟨e1, f1, h1, hk1, hn1, hr1⟩ := iha a f h _ r ha hd
  refine ⟨e1, f1, h1, hk1, hn1, fun μ a' w t z => wp_scope_straight (wp_mono (hr1 μ a' w t z) ?_)⟩
  rintro e a1 w1 ⟨rfl, q⟩
  cases e1 <;> exact ⟨rfl, q⟩
 | block id ra iha =>
  intro c f h κ r hc hd
  obtain ⟨a, rfl, ha⟩ : ∃ a, c = .block id a ∧ rcodeOf P G n a = some (strip ra) := by
   cases c <;> simp only [rcodeOf] at hc <;> (try (simp [strip] at hc; done))
   case region id ops d => obtain ⟨_, e⟩ | ⟨_, e⟩ | ⟨_, _, e⟩ := rcode_region (id := id) (draw := d) hc <;> simp [strip] at e
   case seq a b => split at hc <;> (try cases hc); split at hc <;> simp [strip] at hc
   case cond c a b => split at hc <;> (try cases hc); split at hc <;> simp [strip] at hc
   case block id' a =>
    simp only [Option.map_eq_some_iff] at hc
    obtain ⟨x, hx, e⟩ := hc
    simp [strip] at e
    exact ⟨a, by rw [e.1], by rw [hx, e.2]⟩
  simp only [den] at hd
  obtain ⟨e1, f1, h1, hk1, hn1, hr1⟩ := iha a f h _ r ha hd
  cases e1 with
  | normal =>
   refine ⟨.normal, f1, h1, hk1, hn1, fun μ a' w t z => wp_block (wp_mono (hr1 μ a' w t z) ?_)⟩
   rintro e a1 w1 ⟨rfl, q⟩; exact ⟨rfl, q⟩
  | ret =>
   refine ⟨.ret, f1, h1, hk1, hn1, fun μ a' w t z => wp_block (wp_mono (hr1 μ a' w t z) ?_)⟩
   rintro e a1 w1 ⟨rfl, q⟩; exact ⟨rfl, q⟩
  | exit i =>
   simp only at hk1
   cases hb : Nat.beq i id
   ·rw [hb] at hk1
    have hne : i ≠ id := fun e => by subst e; rw [Nat.beq_refl] at hb; cases hb
    refine ⟨.exit i, f1, h1, hk1, hn1, fun μ a' w t z => wp_block (wp_mono (hr1 μ a' w t z) ?_)⟩
    rintro e a1 w1 ⟨rfl, q⟩
    simp only [exitOf, Exit.inBlock, hne, if_false]
    exact ⟨trivial, q⟩
   ·rw [hb] at hk1
    have he : i = id := Nat.eq_of_beq_eq_true hb
    subst he
    refine ⟨.normal, f1, h1, hk1, hn1, fun μ a' w t z => wp_block (wp_mono (hr1 μ a' w t z) ?_)⟩
    rintro e a1 w1 ⟨rfl, q⟩
    simp only [exitOf, Exit.inBlock, if_true]
    exact ⟨trivial, q⟩
 | loop L ra iha =>
  intro c f h κ r hc hd
  obtain ⟨a, rfl, ha⟩ : ∃ a, c = .loop a ∧ rcodeOf P G n a = some (strip ra) := by
   cases c <;> simp only [rcodeOf] at hc <;> (try (simp [strip] at hc; done))
   case region id ops d => obtain ⟨_, e⟩ | ⟨_, e⟩ | ⟨_, _, e⟩ := rcode_region (id := id) (draw := d) hc <;> simp [strip] at e
   case seq a b => split at hc <;> (try cases hc); split at hc <;> simp [strip] at hc
   case cond c a b => split at hc <;> (try cases hc); split at hc <;> simp [strip] at hc
   case loop a =>
    simp only [Option.map_eq_some_iff] at hc
    obtain ⟨x, hx, e⟩ := hc
    simp [strip] at e
    exact ⟨a, rfl, by rw [hx, e]⟩
  simp only [den] at hd
  have key : ∀ (m : Nat) (f : PFr) (h : AHeap), appL L f (iterK (constL (fun _ => none) L) m fun rec => lamL L noFr fun f h => den C k ra f h fun e f h => match e with
    | .normal => appL L f rec h
    | .exit i => κ (.exit i) f h
    | .ret => κ .ret f h) h = some r →
    ∃ e f' h', e ≠ .normal ∧ κ e f' h' = some r ∧ h.next ≤ h'.next ∧ ∀ {ds : List Deferred} (μ : BMap) (a' : Act) (w : World), At ds G μ f h n a' w → Zed μ h.next h'.next →
     Code.rounds P a (fun x a' w' => x = exitOf e ∧ ∃ μ', At ds G μ' f' h' n a' w' ∧ Step G μ h w μ' h' w') m a' w := by
   intro m
   induction m with
   | zero => intro f h hd; exact (appL_const hd).elim
   | succ m ihm =>
    intro f h hd
    simp only [iterK] at hd
    obtain ⟨g, hg, hd⟩ := appL_lam (fun s v hv => by cases hv) hd
    obtain ⟨e1, f1, h1, hk1, hr1⟩ := iha a g h _ r ha hd
    have hr1 := hr1.weaken hg
    obtain ⟨hn1, hr1⟩ := hr1
    cases e1 with
    | normal =>
     obtain ⟨e2, f2, h2, hne, hk2, hn2, hr2⟩ := ihm f1 h1 hk1
     refine ⟨e2, f2, h2, hne, hk2, Nat.le_trans hn1 hn2, fun μ a' w t z => ?_⟩
     rw [rounds_succ]
     refine wp_mono (hr1 μ a' w t (z.le hn2)) ?_
     rintro e a1 w1 ⟨rfl, μ1, t1, s1⟩
     refine rounds_mono ?_ _ _ _ (hr2 μ1 a1 w1 t1 (s1.zed z))
     rintro e a2 w2 ⟨rfl, μ2, t2, s2⟩
     exact ⟨rfl, μ2, t2, s1.trans s2⟩
    | exit i =>
     refine ⟨.exit i, f1, h1, by simp, hk1, hn1, fun μ a' w t z => ?_⟩
     rw [rounds_succ]
     refine wp_mono (hr1 μ a' w t z) ?_
     rintro e a1 w1 ⟨rfl, q⟩; exact ⟨rfl, q⟩
    | ret =>
     refine ⟨.ret, f1, h1, by simp, hk1, hn1, fun μ a' w t z => ?_⟩
     rw [rounds_succ]
     refine wp_mono (hr1 μ a' w t z) ?_
     rintro e a1 w1 ⟨rfl, q⟩; exact ⟨rfl, q⟩
  obtain ⟨e, f', h', _, hk, hn, hr⟩ := key k f h hd
  exact ⟨e, f', h', hk, hn, fun μ a' w t z => wp_loop_rounds k (hr μ a' w t z)⟩
 | join L ra iha =>
  intro c f h κ r hc hd
  simp only [den, joinK] at hd
  have hc' : rcodeOf P G n c = some (strip ra) := hc
  obtain ⟨e1, f1, h1, hk1, hr1⟩ := iha c f h _ r hc' hd
  cases e1 with
  | normal =>
   obtain ⟨g, hg, hk⟩ := appL_lam (fun s v hv => by cases hv) hk1
   refine ⟨.normal, g, h1, hk, hr1.1, fun μ a' w t z => wp_mono (hr1.2 μ a' w t z) ?_⟩
   rintro e a1 w1 ⟨rfl, μ1, t1, s1⟩
   exact ⟨rfl, μ1, t1.weaken hg, s1⟩
  | exit i => exact ⟨.exit i, f1, h1, hk1, hr1⟩
  | ret => exact ⟨.ret, f1, h1, hk1, hr1⟩
 | exit id =>
  intro c f h κ r hc hd
  obtain rfl : c = .exit id := by
   cases c <;> simp only [rcodeOf] at hc <;> (try (simp [strip] at hc; done))
   case region id ops d => obtain ⟨_, e⟩ | ⟨_, e⟩ | ⟨_, _, e⟩ := rcode_region (id := id) (draw := d) hc <;> simp [strip] at e
   case seq a b => split at hc <;> (try cases hc); split at hc <;> simp [strip] at hc
   case cond c a b => split at hc <;> (try cases hc); split at hc <;> simp [strip] at hc
   case exit i => simp [strip] at hc; rw [hc]
  exact ⟨.exit id, f, h, hd, Nat.le_refl _, fun μ a' w t z => wp_exit ⟨rfl, μ, t, .refl t.sim⟩⟩
 | ret =>
  intro c f h κ r hc hd
  obtain rfl : c = .ret := by
   cases c <;> simp only [rcodeOf] at hc <;> (try (simp [strip] at hc; done))
   case region id ops d => obtain ⟨_, e⟩ | ⟨_, e⟩ | ⟨_, _, e⟩ := rcode_region (id := id) (draw := d) hc <;> simp [strip] at e
   case seq a b => split at hc <;> (try cases hc); split at hc <;> simp [strip] at hc
   case cond c a b => split at hc <;> (try cases hc); split at hc <;> simp [strip] at hc
   case ret => rfl
  exact ⟨.ret, f, h, hd, Nat.le_refl _, fun μ a' w t z => wp_ret ⟨rfl, μ, t, .refl t.sim⟩⟩
 | stuck =>
  intro c f h κ r hc hd
  simp [den] at hd
end
end Gx
namespace Gx
open Go
abbrev TupT : Slots → Type
 | [] => Unit
 | [(_, t)] => t.T
 | (_, t) :: p :: L => t.T × TupT (p :: L)
def encT : (L : Slots) → TupT L → List Value
 | [], _ => []
 | [(_, t)], x => [t.enc x]
 | (_, t) :: p :: L, x => t.enc x.1 :: encT (p :: L) x.2
def retV : List Value → Value
 | [v] => v
 | l => .tuple ⟨l⟩
def resV {X : Type} (s : Nat) (c : Option LTy) (f : PFr) (h : AHeap) (g : Value → Option X) : Option X :=
 match f s with
 | some v => match c with
  | none => g v
  | some T => match v with
   | .pointer p => p.bind fun a => dload T a h g
   | _ => none
 | none => none
def resT {X : Type} : (L : Slots) → List (Option LTy) → PFr → AHeap → (TupT L → Option X) → Option X
 | [], [], _, _, g => g ()
 | [(s, t)], [c], f, h, g => resV s c f h fun v => (t.dec v).bind g
 | (s, t) :: p :: L, c :: cs, f, h, g => resV s c f h fun v => (t.dec v).bind fun x => resT (p :: L) cs f h fun y => g (x, y)
 | _, _, _, _, _ => none
def argFr (args : List Value) : PFr := fun s => args[s]?
noncomputable def denF (C : CallF) (k : Nat) (rc : RCode) (rs : Slots) (cs : List (Option LTy)) (args : List Value) (h : AHeap) : Option (TupT rs × AHeap) :=
 den C k rc (argFr args) h fun e f h => match e with
  | .exit _ => none
  | .normal => resT rs cs f h fun x => some (x, h)
  | .ret => resT rs cs f h fun x => some (x, h)
def curF {X : Type} : (L : Slots) → (List Value → AHeap → Option X) → FnL L (AHeap → Option X)
 | [], b => b []
 | (_, t) :: L, b => fun x => curF L fun vs => b (t.enc x :: vs)
def appA {X : Type} : (L : Slots) → List Value → FnL L (AHeap → Option X) → AHeap → Option X
 | [], [], g, h => g h
 | (_, t) :: L, v :: vs, g, h => (t.dec v).bind fun x => appA L vs (g x) h
 | [], _ :: _, _, _ => none
 | _ :: _, [], _, _ => none
structure Ent where
 id : FuncId
 run : (R : Type) → List Value → AHeap → (Value → AHeap → Option R) → Option R
def entOf (id : FuncId) (ps rs : Slots) (f : FnL ps (AHeap → Option (TupT rs × AHeap))) : Ent :=
 ⟨id, fun _ args h κ => (appA ps args f h).bind fun r => κ (retV (encT rs r.1)) r.2⟩
def EntOk (P : Program) (G : Nat) (e : Ent) : Prop :=
 ∀ (R : Type) (args : List Value) (h : AHeap) (κ : Value → AHeap → Option R) (r : R), e.run R args h κ = some r → ∃ v h', κ v h' = some r ∧ FnS P G e.id args h v h'
def mkC (D : CallF) : List Ent → CallF
 | [] => D
 | e :: es => fun R g args h κ => bif Nat.beq g e.id then e.run R args h κ else mkC D es R g args h κ
def noC : CallF := fun _ _ _ _ _ => none
def EntsOk (P : Program) (G : Nat) : List Ent → Prop
 | [] => True
 | e :: es => EntOk P G e ∧ EntsOk P G es
section
variable {G : Nat} {P : Program}
theorem noC_sound : CSound P G noC := fun _ _ _ _ _ _ h => by cases h
theorem mkC_sound {D : CallF} (hD : CSound P G D) : ∀ {es : List Ent}, EntsOk P G es → CSound P G (mkC D es)
 | [], _ => hD
 | e :: es, hes => fun R g args h κ r hr => by
  simp only [mkC] at hr
  cases hb : Nat.beq g e.id
  ·rw [hb] at hr; exact mkC_sound hD hes.2 R g args h κ r hr
  ·rw [hb] at hr
   have he : g = e.id := Nat.eq_of_beq_eq_true hb
   subst he; exact hes.1 R args h κ r hr
def ResV (f : PFr) (h : AHeap) (s : Nat) (c : Option LTy) (v : Value) : Prop :=
 match c with
 | none => f s = some v
 | some T => ∃ a, f s = some (.pointer (some a)) ∧ dload T a h some = some v
def ResR (f : PFr) (h : AHeap) : Slots → List (Option LTy) → List Value → Prop
 | [], [], [] => True
 | (s, _) :: L, c :: cs, v :: vs => ResV f h s c v ∧ ResR f h L cs vs
 | _, _, _ => False
theorem dload_id {R : Type} {t : LTy} {a : Addr} {h : AHeap} {κ : Value → Option R} {r : R} (hd : dload t a h κ = some r) : ∃ v, κ v = some r ∧ dload t a h some = some v := by
 obtain ⟨v, h1, _, h2⟩ := dload_some hd
 exact ⟨v, h1, h2 h (by cases t <;> rfl) some⟩
theorem resV_some {X : Type} {s : Nat} {c : Option LTy} {f : PFr} {h : AHeap} {g : Value → Option X} {r : X} (hr : resV s c f h g = some r) : ∃ v, g v = some r ∧ ResV f h s c v := by
 unfold resV at hr
 split at hr
 ·rename_i v hv
  cases c with
  | none => exact ⟨v, hr, hv⟩
  | some T =>
   simp only at hr
   split at hr
   ·rename_i p
    simp only [Option.bind_eq_some_iff] at hr
    obtain ⟨a, rfl, hr⟩ := hr
    obtain ⟨v', h1, h2⟩ := dload_id hr
    exact ⟨v', h1, a, hv, h2⟩
   ·cases hr
 ·cases hr
theorem resT_some {X : Type} : ∀ {L : Slots} {cs : List (Option LTy)} {f : PFr} {h : AHeap} {g : TupT L → Option X} {r : X}, resT L cs f h g = some r → ∃ x, g x = some r ∧ ResR f h L cs (encT L x)
 | [], [], f, h, g, r, e => ⟨(), e, trivial⟩
 | [(s, t)], [c], f, h, g, r, e => by
  simp only [resT] at e
  obtain ⟨v, h1, h2⟩ := resV_some e
  simp only [Option.bind_eq_some_iff] at h1
  obtain ⟨x, hx, hg⟩ := h1
  refine ⟨x, hg, ?_, trivial⟩
  rw [LTy.enc_dec hx]; exact h2
 | (s, t) :: p :: L, c :: cs, f, h, g, r, e => by
  simp only [resT] at e
  obtain ⟨v, h1, h2⟩ := resV_some e
  simp only [Option.bind_eq_some_iff] at h1
  obtain ⟨x, hx, hg⟩ := h1
  obtain ⟨y, hy, hR⟩ := resT_some hg
  refine ⟨(x, y), hy, ?_, hR⟩
  rw [LTy.enc_dec hx]; exact h2
 | [], _ :: _, _, _, _, _, e => by simp [resT] at e
 | [_], [], _, _, _, _, e => by simp [resT] at e
 | [_], _ :: _ :: _, _, _, _, _, e => by simp [resT] at e
 | _ :: _ :: _, [], _, _, _, _, e => by simp [resT] at e
theorem appA_cur {X : Type} : ∀ {L : Slots} {args : List Value} {b : List Value → AHeap → Option X} {h : AHeap} {r : X}, appA L args (curF L b) h = some r → b args h = some r
 | [], [], b, h, r, e => e
 | (s, t) :: L, v :: vs, b, h, r, e => by
  simp only [appA, curF, Option.bind_eq_some_iff] at e
  obtain ⟨x, hx, e⟩ := e
  have := appA_cur e
  rw [LTy.enc_dec hx] at this
  exact this
 | [], _ :: _, b, h, r, e => by simp [appA] at e
 | _ :: _, [], b, h, r, e => by simp [appA] at e
def resOk (P : Program) : List ResultVar → Slots → List (Option LTy) → Bool
 | [], [], [] => true
 | .tmp t :: l, (s, _) :: L, none :: cs => Nat.beq t s && resOk P l L cs
 | .cell t ty :: l, (s, _) :: L, some T :: cs => Nat.beq t s && decide (ltyOf P ty = some T) && resOk P l L cs
 | _, _, _ => false
theorem loadVar_ok {t : TypeId} {T : LTy} {μ : BMap} {h : AHeap} {w : World} (hT : ltyOf P t = some T) (s : Sim G μ h w) {ad : Addr} {p' v : Value} (hv : VR μ (.pointer (some ad)) p') (hd : dload T ad h some = some v) :
  ∃ v', (do loadVar t (← asAddr p') : Sem Value).run P w = .ok v' w ∧ VR μ v v' := by
 obtain ⟨v0, hk, hv0, _⟩ := dload_some hd
 cases hk
 obtain ⟨b, o, c, d, z, rfl, he, hm⟩ := vr_ptr hv
 subst he
 cases T
 case st ts => exact (ltyOf_st hT).elim
 case agg n =>
  obtain ⟨l, hl, rfl⟩ := hv0
  obtain ⟨h1, h2⟩ := ltyOf_agg hT
  obtain ⟨vs', q1, q2, _⟩ := s.loads (P := P) hm hl
  exact ⟨_, by simp [asAddr, loadVar, run_isAgg h1, run_sizeOf' h2, q1], .agg_list q2⟩
 all_goals
  obtain ⟨v', q1, q2⟩ := s.cell hm hv0
  exact ⟨v', by simp [asAddr, loadVar, run_isAgg (ltyOf_one hT (fun n e => by cases e)), q1], q2⟩
theorem run_results {fn : Func} {rs : Slots} {cs : List (Option LTy)} (hr : resOk P fn.results.toList rs cs = true) {μ : BMap} {f : PFr} {tmps : Array Value} (fr : FR μ f tmps) {h : AHeap} {w : World} (sim : Sim G μ h w) {vals : List Value}
  (hx : ResR f h rs cs vals) : ∃ v', (results fn tmps).run P w = .ok v' w ∧ VR μ (retV vals) v' := by
 let F : ResultVar → Sem Value := (fun | .tmp t => pure (tmps.getD t undef) | .cell a t => do loadVar t (← asAddr (tmps.getD a undef)) : ResultVar → Sem Value)
 let g : ResultVar → Value := fun r => match (F r).run P w with | .ok v _ => v | _ => undef
 have gok : ∀ r v, (F r).run P w = .ok v w → g r = v := fun r v e => by simp only [g, e]
 have key : ∀ (l : List ResultVar) (L : Slots) (cs : List (Option LTy)) (vs : List Value), resOk P l L cs = true → ResR f h L cs vs →
   (∀ r ∈ l, (F r).run P w = .ok (g r) w) ∧ VRs μ vs (l.map g) := by
  intro l
  induction l with
  | nil =>
   intro L cs vs h1 h2
   cases L <;> cases cs <;> simp [resOk] at h1
   cases vs with
   | nil => exact ⟨fun r hr => (by cases hr), VRs.nil μ⟩
   | cons _ _ => simp [ResR] at h2
  | cons r l ih =>
   intro L cs vs h1 h2
   cases L with
   | nil => cases r <;> simp [resOk] at h1
   | cons p L =>
    obtain ⟨s, t⟩ := p
    cases cs with
    | nil => cases r <;> simp [resOk] at h1
    | cons c cs =>
    cases vs with
    | nil => simp [ResR] at h2
    | cons v vs =>
    simp only [ResR] at h2
    have main : ∃ v', (F r).run P w = .ok v' w ∧ VR μ v v' := by
     cases r with
     | tmp tt =>
      cases c with
      | some _ => simp [resOk] at h1
      | none =>
       simp only [resOk, Bool.and_eq_true] at h1
       have hts : tt = s := Nat.eq_of_beq_eq_true h1.1
       subst hts
       exact ⟨_, rfl, fr _ _ h2.1⟩
     | cell tt ty =>
      cases c with
      | none => simp [resOk] at h1
      | some T =>
       simp only [resOk, Bool.and_eq_true] at h1
       have hts : tt = s := Nat.eq_of_beq_eq_true h1.1.1
       subst hts
       obtain ⟨a, ha, hd⟩ := h2.1
       exact loadVar_ok (of_decide_eq_true h1.1.2) sim (fr _ _ ha) hd
    have tl : resOk P l L cs = true := by
     cases r <;> cases c <;> simp only [resOk, Bool.and_eq_true] at h1 <;> first | exact h1.2 | cases h1
    obtain ⟨k1, k2⟩ := ih L cs vs tl h2.2
    obtain ⟨v', q1, q2⟩ := main
    have e := gok _ _ q1
    refine ⟨fun r' hr' => ?_, ?_⟩
    ·rcases List.mem_cons.1 hr' with rfl | hr'
     ·rw [q1, e]
     ·exact k1 r' hr'
    ·simp only [List.map_cons]
     exact .cons (e ▸ q2) k2
 obtain ⟨k1, k2⟩ := key fn.results.toList rs cs vals hr hx
 have hm := run_mapMA (P := P) F g w fn.results (fun r hr => k1 r hr)
 have hrun : (results fn tmps).run P w = .ok (if h : (fn.results.map g).size = 1 then (fn.results.map g)[0] else .tuple (fn.results.map g)) w := by
  unfold results
  simp only [Sem.run_bind]
  erw [hm]
  rfl
 have fin : ∀ (A : Array Value) (vs : List Value), VRs μ vs A.toList → VR μ (retV vs) (if h : A.size = 1 then A[0] else .tuple A) := by
  intro A vs k2
  obtain ⟨al⟩ := A
  match vs, al, k2 with
  | [], al, k2 =>
   have := k2.nil_inv; subst this
   simp [retV]
   exact .tuple_list (.nil μ)
  | [v], al, k2 =>
   obtain ⟨v', t, e, h1, h2⟩ := k2.cons_inv
   have := h2.nil_inv; subst this
   simp only at e; subst e
   simpa [retV] using h1
  | v :: v2 :: vs, al, k2 =>
   have hl2 := k2.1
   rw [dif_neg (by simp at hl2 ⊢; omega)]
   exact .tuple_list k2
 refine ⟨_, hrun, fin _ _ ?_⟩
 have hlist : (fn.results.map g).toList = fn.results.toList.map g := by simp
 rw [hlist]; exact k2
theorem fnS_of {fn : Func} {g : FuncId} {c : Code} {rc : RCode} {rs : Slots} {cs : List (Option LTy)} {C : CallF} {k : Nat} {args : List Value} {h h' : AHeap} {x : TupT rs} (hC : CSound P G C) (hf : P.funcs[g]? = some fn) (hb : fn.body = some c)
  (hname : (fn.name == "runtime.NumGoroutine") = false) (hcode : rcodeOf P G fn.ntmps c = some (strip rc)) (hres : resOk P fn.results.toList rs cs = true) (hd : denF C k rc rs cs args h = some (x, h')) :
  FnS P G g args h (retV (encT rs x)) h' := by
 unfold denF at hd
 obtain ⟨e, f', h1, hk, hn, hrun⟩ := den_sound hC rc c (argFr args) h _ _ hcode hd
 have hex : (e = .normal ∨ e = .ret) ∧ resT rs cs f' h1 (fun x => some (x, h1)) = some (x, h') := by
  cases e with
  | normal => exact ⟨.inl rfl, hk⟩
  | ret => exact ⟨.inr rfl, hk⟩
  | exit i => simp at hk
 obtain ⟨he, hk⟩ := hex
 obtain ⟨x', hx', hR⟩ := resT_some hk
 simp only [Option.some.injEq, Prod.mk.injEq] at hx'
 obtain ⟨rfl, rfl⟩ := hx'
 refine ⟨hn, fun μ w args' s z hv o a next Q hnext => ?_⟩
 have hcall : (callFunc g ⟨args'⟩).run P w = .ok (.enter g ⟨args'⟩) w := by
  have hne : ¬ fn.name = "runtime.NumGoroutine" := by simpa using hname
  simp [callFunc, hf, hne, hb]
 rw [hcall, Oper.upon_enter]
 refine calls_of_wp hf hb (wp_mono (hrun μ _ w ⟨s, fun t v ht => ?_, rfl, ?_⟩ z) ?_)
 ·-- the arguments' slots
  simp only [argFr] at ht
  obtain ⟨v', q1, q2⟩ := hv.get ht
  have hlt : t < args'.length := (List.getElem?_eq_some_iff.1 q1).1
  rw [Array.getD_eq_getD_getElem?, Array.getElem?_append_left (by simpa using hlt)]
  have : (⟨args'⟩ : Array Value)[t]? = some v' := by simpa using q1
  rw [this]; exact q2
 ·simp; omega
 ·rintro y a1 w1 ⟨rfl, μ1, at1, st⟩
  obtain ⟨v', r1, r2⟩ := run_results (P := P) hres at1.fr at1.sim hR
  have : bodyPost P fn (fun e w'' => match e with
    | .returned v => next (a.put o.dst v) w''
    | .panicked chain => Q (.panic chain) a w''
    | .outgrown => LetsOut Q) .ret a1 w1 := ⟨at1.df, v', r1, hnext v' w1 ⟨μ1, r2, st⟩⟩
  rcases he with rfl | rfl
  ·exact this
  ·exact this
theorem entOf_ok {fn : Func} {id : FuncId} {c : Code} {rc : RCode} {ps rs : Slots} {cs : List (Option LTy)} {C : CallF} {k : Nat} {f : FnL ps (AHeap → Option (TupT rs × AHeap))} (hC : CSound P G C) (hf : P.funcs[id]? = some fn) (hb : fn.body = some c)
  (hname : (fn.name == "runtime.NumGoroutine") = false) (hcode : rcodeOf P G fn.ntmps c = some (strip rc)) (hres : resOk P fn.results.toList rs cs = true)
  (hrfl : curF ps (fun args h => denF C k rc rs cs args h) = f) : EntOk P G (entOf id ps rs f) := by
 intro R args h κ r hr
 simp only [entOf, Option.bind_eq_some_iff] at hr
 obtain ⟨⟨x, h'⟩, hx, hk⟩ := hr
 rw [← hrfl] at hx
 exact ⟨_, h', hk, fnS_of hC hf hb hname hcode hres (appA_cur hx)⟩
end
end Gx
namespace Gx
open Go
inductive AT where
 | n
 | j (L : Slots) (t : AT)
 | s (a b : AT)
 | b (a : AT)
 | l (L : Slots) (a : AT)
 | r (tags : List (Nat × LTy))
def tagAt : List (Nat × LTy) → Nat → Option LTy
 | [], _ => none
 | (i, t) :: l, m => bif Nat.beq i m then some t else tagAt l m
def tagO (t : Option LTy) (o : RO) : RO := ⟨o.dst, o.op, o.guard, t⟩
def tagR (ts : List (Nat × LTy)) : Nat → List RO → List RO
 | _, [] => []
 | m, o :: l => tagO (tagAt ts m) o :: tagR ts (m + 1) l
def tagD (ts : List (Nat × LTy)) : Nat → List RD → List RD
 | _, [] => []
 | m, e :: l => ⟨e.idx, tagO (tagAt ts m) e.ro, e.looks, e.win⟩ :: tagD ts (m + 1) l
def tagG (ts : List (Nat × LTy)) : Nat → List RG → List RG
 | _, [] => []
 | m, e :: l => ⟨⟨e.d.idx, tagO (tagAt ts m) e.d.ro, e.d.looks, e.d.win⟩, e.gh, e.own⟩ :: tagG ts (m + 1) l
def an : AT → RCode → RCode
 | .n, c => c
 | .j L t, c => .join L (an t c)
 | .s x y, c => match c with
  | .seq a b => .seq (an x a) (an y b)
  | .cond o a b => .cond o (an x a) (an y b)
  | c => c
 | .b x, c => match c with
  | .block i a => .block i (an x a)
  | .scope a => .scope (an x a)
  | c => c
 | .l L x, c => match c with
  | .loop _ a => .loop L (an x a)
  | c => c
 | .r ts, c => match c with
  | .region os => .region (tagR ts 0 os)
  | .draw es => .draw (tagD ts 0 es)
  | .gdraw m es => .gdraw m (tagG ts 0 es)
  | c => c
def rOf (P : Program) (G : Nat) (f : Func) : RCode := (f.body.bind (rcodeOf P G f.ntmps)).getD .stuck
section
variable {G : Nat} {P : Program}
theorem EntsOk.none : EntsOk P G [] := trivial
theorem EntsOk.more {e : Ent} {es : List Ent} (h : EntOk P G e) (hs : EntsOk P G es) : EntsOk P G (e :: es) := ⟨h, hs⟩
theorem entOf_ok2 {fn : Func} {id : FuncId} {rc : RCode} {ps rs : Slots} {cs : List (Option LTy)} {C : CallF} {k : Nat} {f : FnL ps (AHeap → Option (TupT rs × AHeap))} (hC : CSound P G C) (hf : P.funcs[id]? = some fn)
  (hname : (fn.name == "runtime.NumGoroutine") = false) (hcode : fn.body.bind (rcodeOf P G fn.ntmps) = some (strip rc)) (hres : resOk P fn.results.toList rs cs = true)
  (hrfl : curF ps (fun args h => denF C k rc rs cs args h) = f) : EntOk P G (entOf id ps rs f) := by
 cases hb : fn.body with
 | none => rw [hb] at hcode; cases hcode
 | some c => rw [hb] at hcode; exact entOf_ok hC hf hb hname hcode hres hrfl
end
end Gx
namespace Gx
open Go
section
variable {G : Nat} {P : Program}
theorem fnS_value {g : FuncId} {args : List Value} {h h' : AHeap} {v : Value} (hn : h.next ≤ h'.next)
  (k : ∀ (μ : BMap) (w : World) (args' : List Value), Sim G μ h w → Zed μ h.next h'.next → VRs μ args args' → ∃ μ' v' w', (callFunc g ⟨args'⟩).run P w = .ok (.value v') w' ∧ VR μ' v v' ∧ Step G μ h w μ' h' w') : FnS P G g args h v h' := by
 refine ⟨hn, fun μ w args' s z hv o a next Q hnext => ?_⟩
 obtain ⟨μ', v', w', h1, h2, h3⟩ := k μ w args' s z hv
 rw [h1, Oper.upon_value]
 exact hnext v' w' ⟨μ', h2, h3⟩
theorem VR.unit {μ : BMap} : VR μ (.tuple ⟨[]⟩) (.tuple ⟨[]⟩) := .tuple_list (.nil μ)
def eAdd (id : FuncId) (k : IntKind) : Ent := ⟨id, fun _ args h κ => match args with
 | [.pointer p, .int k1 y] => bif decide (k1 = k) then p.bind fun a => (ldI k a h).bind fun x =>
   (st1 a (.int k (IntKind.wrap k (x + y))) h).bind fun h' => κ (.int k (IntKind.wrap k (x + y))) h'
  else none
 | _ => none⟩
variable {f : FuncId} {fn : Func}
theorem VRs.one_inv {μ : BMap} {v : Value} {l : List Value} (h : VRs μ [v] l) : ∃ v', l = [v'] ∧ VR μ v v' := by
 obtain ⟨v', t, e, h1, h2⟩ := h.cons_inv
 have := h2.nil_inv; subst this
 exact ⟨v', e, h1⟩
theorem VRs.two_inv {μ : BMap} {v u : Value} {l : List Value} (h : VRs μ [v, u] l) : ∃ v' u', l = [v', u'] ∧ VR μ v v' ∧ VR μ u u' := by
 obtain ⟨v', t, e, h1, h2⟩ := h.cons_inv
 obtain ⟨u', rfl, h3⟩ := h2.one_inv
 exact ⟨v', u', e, h1, h3⟩
theorem ldI_cell {k : IntKind} {h : AHeap} {μ : BMap} {w : World} {x : Int} {b o c d z : Nat} (s : Sim G μ h w) (hm : μ b = some (c, d, z)) (hl : ldI k ⟨b, o, none⟩ h = some x) : w.cell? ⟨c, d + o, none⟩ = some (.int k x) := by
 unfold ldI at hl
 simp only [Option.bind_eq_some_iff] at hl
 obtain ⟨v, hv, hd⟩ := hl
 obtain ⟨v', q1, q2⟩ := s.cell hm hv
 rw [decI_some hd] at q2
 rw [q1, vr_int q2]
theorem st1_cell (P : Program) {k : IntKind} {h h' : AHeap} {μ : BMap} {w : World} {u : Value} {y : Int} {b o c d z : Nat} (s : Sim G μ h w) (hm : μ b = some (c, d, z)) (hc : w.cell? ⟨c, d + o, none⟩ = some u) (hs : st1 ⟨b, o, none⟩ (.int k y) h = some h') :
  w.frozen? ⟨c, d + o, none⟩ = false ∧ Step G μ h w μ h' (w.setCell ⟨c, d + o, none⟩ (.int k y)) := by
 obtain ⟨w', q1, q2⟩ := s.store1 (P := P) hm (v' := .int k y) hs (.int _ _)
 simp only at q1
 rw [run_store P w _ _ _ rfl, hc] at q1
 simp only at q1
 cases hz : w.frozen? ⟨c, d + o, none⟩ with
 | true => rw [hz] at q1; simp at q1
 | false => rw [hz] at q1; simp at q1; subst q1; exact ⟨rfl, q2⟩
theorem st1_next {a : Addr} {v : Value} {h h' : AHeap} (hs : st1 a v h = some h') : h'.next = h.next := by
 unfold st1 AHeap.wr1 at hs
 split at hs
 ·split at hs
  ·cases hs; rfl
  ·cases hs
 ·cases hs
theorem run_add {k : IntKind} {x y : Int} {w : World} : (Op.intArith .add k x y).run P w = .ok (.int k (IntKind.wrap k (x + y))) w := rfl
theorem add_ok (hf : P.funcs[f]? = some fn) (hname : (fn.name == "runtime.NumGoroutine") = false) (hb : fn.body.isNone = true) (hn : Extern.findNext fn = none) (k : IntKind)
  (he : Extern.find fn = some (Extern.Atomic.update (Op.intArith .add) k true)) : EntOk P G (eAdd f k) := by
 intro R args h κ r hr
 simp only [eAdd] at hr
 split at hr
 ·rename_i p k' y
  by_cases hk : k' = k
  ·subst hk
   simp only [decide_true, cond_true, Option.bind_eq_some_iff] at hr
   obtain ⟨a, rfl, x, hx, h', hs, hr⟩ := hr
   refine ⟨_, h', hr, fnS_value (Nat.le_of_eq (st1_next hs).symm) fun μ w args' s z hv => ?_⟩
   obtain ⟨p', u', rfl, hp, hu⟩ := hv.two_inv
   obtain ⟨b, o, c, d, z, rfl, rfl, hm⟩ := vr_ptr hp
   have := vr_int hu; subst this
   have hc := ldI_cell s hm hx
   obtain ⟨hz, st⟩ := st1_cell P s hm hc hs
   exact ⟨μ, _, _, run_call_add hf hname hb hn _ he hc hz run_add, .int _ _, st⟩
  ·simp [hk] at hr
 ·cases hr
end
end Gx
namespace Gx
open Go
section
variable {G : Nat} {P : Program} {R : Type} {r : R} {C : CallF}
structure OnceC where
 id : FuncId
 ro0 : List RO
 ro1 : List RO
 g1 : FuncId
 a1 : List Operand
 ro2 : List RO
 t : Nat
 ro3 : List RO
 g2 : FuncId
 a2 : List Operand
 ro4 : List RO
structure OnceFits (P : Program) (G : Nat) (fn : Func) (o : OnceC) : Prop where
 ex : ∃ (i0 i1 i2 i3 i4 : Nat) (p0 p1 p2 p3 p4 : Array Oper) (pre1 pre3 : List Oper) (d1 d3 : Oper) (b1 b3 : Array Operand) (t1 t3 : Array TypeId),
  fn.body = some (.seq (.region i0 p0 false) (.seq (.region i1 p1 false) (.seq (.region i2 p2 false) (.cond (.tmp o.t) (.seq (.region i3 p3 false) (.region i4 p4 false)) .skip)))) ∧
  rosOf P G fn.ntmps p0 p0.toList = some (o.ro0.map stripO) ∧ rosOf P G fn.ntmps p2 p2.toList = some (o.ro2.map stripO) ∧ rosOf P G fn.ntmps p4 p4.toList = some (o.ro4.map stripO) ∧
  p1.toList = pre1 ++ [d1] ∧ d1.op = .defer ⟨.value (.func o.g1), b1, t1⟩ ∧ d1.guard = none ∧ d1.dst = none ∧ rosOf P G fn.ntmps p1 pre1 = some (o.ro1.map stripO) ∧ opsG G b1.toList = true ∧ b1.toList = o.a1 ∧
  p3.toList = pre3 ++ [d3] ∧ d3.op = .defer ⟨.value (.func o.g2), b3, t3⟩ ∧ d3.guard = none ∧ d3.dst = none ∧ rosOf P G fn.ntmps p3 pre3 = some (o.ro3.map stripO) ∧ opsG G b3.toList = true ∧ b3.toList = o.a2
end
end Gx
namespace Gx
open Go
structure RowW {α : Type} (w : Nat) (enc : α → List Value) (h : AHeap) (s : Slc) (xs : List α) : Prop where
 len : s.len = xs.length
 at' : ∀ (i : Nat) (x : α), xs[i]? = some x → ∃ a c e r fz, s.a = some a ∧ a.block < h.next ∧ h.get a.block = some (.cells c e r fz) ∧ ∀ (j : Nat) (v : Value), (enc x)[j]? = some v → c[a.off + i * w + j]? = some v
section
variable {α : Type} {w : Nat} {enc : α → List Value} {h h' : AHeap} {s : Slc} {xs : List α}
theorem RowW.nil (w : Nat) (enc : α → List Value) (h : AHeap) (a : Option Addr) (cap : Nat) : RowW w enc h ⟨a, 0, cap⟩ [] := ⟨rfl, fun i x hx => by simp at hx⟩
theorem RowW.chg {S : Nat → Prop} (R : RowW w enc h s xs) (c : Chg S h h') (hs : ∀ a, s.a = some a → ¬ S a.block) : RowW w enc h' s xs :=
 ⟨R.len, fun i x hx => by
  obtain ⟨a, cs, e, r, fz, h1, h2, h3, h4⟩ := R.at' i x hx
  exact ⟨a, cs, e, r, fz, h1, Nat.lt_of_lt_of_le h2 c.nx, (c.oth _ h2 (hs a h1)).trans h3, h4⟩⟩
theorem RowW.keeps (R : RowW w enc h s xs) (c : Keeps h h') : RowW w enc h' s xs := R.chg c fun _ _ f => f
theorem RowW.ld (R : RowW w enc h s xs) (hw : ∀ x, (enc x).length = w) (hw0 : 0 < w) {i : Nat} {x : α} (hx : xs[i]? = some x) :
  ∃ q, idxL w s (i : Int) = some q ∧ ldA w q h = some (enc x) ∧ (∀ (j : Nat) (k : IntKind) (n : Int), (enc x)[j]? = some (.int k n) → ldI k ⟨q.block, q.off + j, none⟩ h = some n) ∧ (∀ (j : Nat) (t : ByteArray), (enc x)[j]? = some (.string t) → ldS ⟨q.block, q.off + j, none⟩ h = some t) := by
 obtain ⟨a, c, e, r, fz, h1, h2, h3, h4⟩ := R.at' i x hx
 have hi : i < s.len := by rw [R.len]; exact (List.getElem?_eq_some_iff.1 hx).1
 refine ⟨⟨a.block, a.off + i * w, none⟩, ?_, ?_, fun j k n hj => sldI_at h3 (h4 j _ hj), fun j t hj => ?_⟩
 ·simp only [idxL, h1]
  rw [if_pos (by omega), Int.toNat_natCast]
 ·obtain ⟨m, rfl⟩ : ∃ m, w = m + 1 := ⟨w - 1, by omega⟩
  have hl : (enc x).length = m + 1 := hw x
  obtain ⟨v, hv⟩ := isome (l := enc x) (i := m) (by omega)
  have hlt := (List.getElem?_eq_some_iff.1 (h4 m v hv)).1
  simp only [ldA, AHeap.rdL, h3]
  rw [if_pos (by omega)]
  congr 1
  apply List.ext_getElem?
  intro j
  rw [List.getElem?_take, List.getElem?_drop]
  by_cases hj : j < m + 1
  ·obtain ⟨u, hu⟩ := isome (l := enc x) (i := j) (by omega)
   rw [if_pos hj, hu]; exact h4 j u hu
  ·rw [if_neg hj, List.getElem?_eq_none (by omega)]
 ·simp [ldS, AHeap.rd1, h3, h4 j _ hj, decS]
theorem flatW_length (hw : ∀ x, (enc x).length = w) : ∀ xs : List α, (xs.flatMap enc).length = xs.length * w
 | [] => by simp
 | x :: xs => by rw [List.flatMap_cons, List.length_append, flatW_length hw xs, hw x, List.length_cons, Nat.succ_mul]; omega
theorem flatW_get (hw : ∀ x, (enc x).length = w) : ∀ {xs : List α} {i : Nat} {x : α}, xs[i]? = some x → ∀ (j : Nat) (v : Value), (enc x)[j]? = some v → (xs.flatMap enc)[i * w + j]? = some v
 | [], i, x, h, _, _, _ => by simp at h
 | y :: xs, 0, x, h, j, v, hv => by
  simp at h; subst h
  have hj : j < (enc y).length := (List.getElem?_eq_some_iff.1 hv).1
  rw [List.flatMap_cons, Nat.zero_mul, Nat.zero_add, List.getElem?_append_left hj]; exact hv
 | y :: xs, i + 1, x, h, j, v, hv => by
  have := flatW_get hw (xs := xs) (i := i) (x := x) (by simpa using h) j v hv
  rw [List.flatMap_cons, List.getElem?_append_right (by rw [hw y, Nat.succ_mul]; omega), hw y, show (i + 1) * w + j - w = i * w + j by rw [Nat.succ_mul]; omega]
  exact this
theorem rowW_blk (hw : ∀ x, (enc x).length = w) {b n cap : Nat} {sp : Option Nat} {ys : List α} {e : TypeId} {r : Bool} {fz : Nat} (hb : h.get b = some (.cells (ys.flatMap enc) e r fz)) (hl : b < h.next) (hn : n ≤ ys.length) : RowW w enc h ⟨some ⟨b, 0, sp⟩, n, cap⟩ (ys.take n) :=
 ⟨by rw [List.length_take]; show n = min n ys.length; omega, fun i x hx => by
  rw [List.getElem?_take] at hx
  split at hx
  ·exact ⟨_, _, _, _, _, rfl, hl, hb, fun j v hv => by rw [Nat.zero_add]; exact flatW_get hw hx j v hv⟩
  ·cases hx⟩
end
structure AccW {α : Type} (w : Nat) (enc : α → List Value) (e : TypeId) (base : Nat) (h : AHeap) (s : Slc) (xs : List α) : Prop where
 st : (s = ⟨none, 0, 0⟩ ∧ xs = []) ∨ ∃ b, s = ⟨some ⟨b, 0, some (w + 1)⟩, xs.length, xs.length⟩ ∧ h.get b = some (.cells (xs.flatMap enc) e true 0) ∧ xs ≠ []
 lt : ∀ a, s.a = some a → a.block < h.next ∧ base ≤ a.block
section
variable {α : Type} {w : Nat} {enc : α → List Value} {e : TypeId} {base : Nat} {h h' : AHeap} {s : Slc} {xs : List α}
theorem AccW.nil (w : Nat) (enc : α → List Value) (e : TypeId) (base : Nat) (h : AHeap) : AccW w enc e base h ⟨none, 0, 0⟩ [] := ⟨.inl ⟨rfl, rfl⟩, fun a ha => by cases ha⟩
theorem AccW.chg {S : Nat → Prop} (A : AccW w enc e base h s xs) (c : Chg S h h') (hs : ∀ a, s.a = some a → ¬ S a.block) : AccW w enc e base h' s xs := by
 refine ⟨A.st.imp id ?_, fun a ha => ⟨Nat.lt_of_lt_of_le (A.lt a ha).1 c.nx, (A.lt a ha).2⟩⟩
 rintro ⟨b, h1, h2, h3⟩
 have hb := A.lt ⟨b, 0, some (w + 1)⟩ (by rw [h1])
 exact ⟨b, h1, (c.oth b hb.1 (hs ⟨b, 0, some (w + 1)⟩ (by rw [h1]))).trans h2, h3⟩
theorem AccW.keeps (A : AccW w enc e base h s xs) (c : Keeps h h') : AccW w enc e base h' s xs := A.chg c fun _ _ f => f
theorem AccW.row (A : AccW w enc e base h s xs) (hw : ∀ x, (enc x).length = w) : RowW w enc h s xs := by
 rcases A.st with ⟨rfl, rfl⟩ | ⟨b, rfl, h2, h3⟩
 ·exact RowW.nil _ _ _ _ _
 ·have := rowW_blk (cap := xs.length) (sp := some (w + 1)) hw h2 (A.lt ⟨b, 0, some (w + 1)⟩ rfl).1 (Nat.le_refl _)
  rw [List.take_length] at this
  exact this
theorem AccW.take (A : AccW w enc e base h s xs) (hw : ∀ x, (enc x).length = w) {n : Nat} (hn : n ≤ xs.length) (hx : 0 < xs.length) : ∃ t, subL w s none (some (n : Int)) none = some t ∧ RowW w enc h t (xs.take n) ∧ ∀ a, t.a = some a → base ≤ a.block ∧ a.block < h.next := by
 rcases A.st with ⟨_, rfl⟩ | ⟨b, rfl, h2, h3⟩
 ·simp at hx
 ·have hb := A.lt ⟨b, 0, some (w + 1)⟩ rfl
  refine ⟨⟨some ⟨b, 0, some (w + 1)⟩, n, xs.length⟩, ?_, rowW_blk hw h2 hb.1 hn, fun a ha => by cases ha; exact ⟨hb.2, hb.1⟩⟩
  simp only [subL, Option.getD_none, Option.getD_some]
  rw [if_pos (by omega), if_pos (by simp [spOk])]
  simp
theorem AccW.push (A : AccW w enc e base h s xs) (hw : ∀ x, (enc x).length = w) (ho : ∀ x, allOne (enc x) = true) (x : α) {bytes : Nat} (h1 : 1 ≤ bytes) (hs : 2 * (xs.length + 1) * bytes ≤ 281474976710656) (hbase : base ≤ h.next) :
  ∃ s' h', appendA w bytes e (h.new (.cells (enc x) e true 0)) s (enc x) 1 = some (s', h') ∧ AccW w enc e base h' s' (xs ++ [x]) ∧ Chg (ofS s) h h' ∧ ∀ a, s'.a = some a → h.next ≤ a.block := by
 obtain ⟨g1, hg1⟩ : ∃ g1, g1 = h.new (.cells (enc x) e true 0) := ⟨_, rfl⟩
 have k1 : Keeps h g1 := hg1 ▸ Keeps.new h _
 have n1 : g1.next = h.next + 1 := by rw [hg1]; rfl
 rw [← hg1]
 have A1 := A.keeps k1
 rcases A1.st with ⟨rfl, rfl⟩ | ⟨b, rfl, h2, h3⟩
 ·refine ⟨⟨some ⟨g1.next, 0, some (w + 1)⟩, 1, 1⟩, g1.new (.cells (enc x) e true 0), ?_, ⟨.inr ⟨g1.next, rfl, by simp, by simp⟩, ?_⟩, (k1.trans (Keeps.new g1 _)).wk fun _ _ f => f.elim, ?_⟩
  ·simp only [appendA]
   rw [if_neg (by omega), if_pos (by simp at hs ⊢; omega)]
  ·intro a ha; cases ha; simp; omega
  ·intro a ha; cases ha; simp; omega
 ·have hb := A1.lt ⟨b, 0, some (w + 1)⟩ rfl
  have hl := flatW_length hw xs
  have hx : 0 < xs.length := List.length_pos_iff.2 h3
  refine ⟨⟨some ⟨g1.next, 0, some (w + 1)⟩, xs.length + 1, xs.length + 1⟩, (g1.kill b).new (.cells ((xs ++ [x]).flatMap enc) e true 0), ?_, ⟨.inr ⟨g1.next, by simp, by simp, by simp⟩, ?_⟩, Chg.beh (T := (· = b)) (Chg.keeps k1) (Chg.kill_new (.inr rfl)) fun y hy q => ⟨⟨b, 0, some (w + 1)⟩, rfl, q⟩, ?_⟩
  ·simp only [appendA]
   rw [if_neg (by omega), if_pos ⟨hs, h1⟩]
   simp only [h2]
   rw [if_pos ⟨by omega, trivial, by omega, by omega, trivial, trivial, ho x⟩, ← hl, List.take_length, List.flatMap_append]
   simp
  ·intro a ha; cases ha; simp; omega
  ·intro a ha; cases ha; simp; omega
end
end Gx
namespace Gx
open Go
def newK {α : Type} (h : AHeap) (B : ABlk) (f : AHeap → α) : α := f (h.new B)
theorem Wp.new {R : Type} {Q : R → Prop} {h : AHeap} {B : ABlk} {f : AHeap → Option R} (k : ∀ H : AHeap, Keeps h H → H.next = h.next + 1 → H.get h.next = some B → Wp (f H) Q) : Wp (newK h B f) Q :=
 k _ (Keeps.new h B) rfl (by simp)
theorem Chg.got {S : Nat → Prop} {h h' : AHeap} {x : Nat} {B : ABlk} (c : Chg S h h') (hx : x < h.next) (hs : ¬ S x) (g : h.get x = some B) : h'.get x = some B := (c.oth x hx hs).trans g
theorem Keeps.got {h h' : AHeap} {x : Nat} {B : ABlk} (c : Keeps h h') (hx : x < h.next) (g : h.get x = some B) : h'.get x = some B := (c.oth x hx fun f => f).trans g
theorem Wp.st {R : Type} {Q : R → Prop} {h : AHeap} {b o : Nat} {sp : Option Nat} {c : List Value} {e : TypeId} {v : Value} {f : AHeap → Option R} (hb : h.get b = some (.cells c e true 0)) (ho : o < c.length) (hv : one v = true)
  (k : ∀ H : AHeap, Chg (· = b) h H → H.next = h.next → H.get b = some (.cells (c.set o v) e true 0) → Wp (f H) Q) : Wp ((st1 ⟨b, o, sp⟩ v h).bind f) Q :=
 Wp.bnd (st1_of hb ho hv) (k _ (Chg.set (.inr rfl)) rfl (by simp))
theorem Wp.stL {R : Type} {Q : R → Prop} {h : AHeap} {b n : Nat} {sp : Option Nat} {c cs : List Value} {e : TypeId} {f : AHeap → Option R} (hb : h.get b = some (.cells c e true 0)) (hc : c.length = n) (hl : cs.length = n) (ho : allOne cs = true) (hn : n ≠ 0)
  (k : ∀ H : AHeap, Chg (· = b) h H → H.next = h.next → H.get b = some (.cells cs e true 0) → Wp (f H) Q) : Wp ((Gx.stL n ⟨b, 0, sp⟩ cs h).bind f) Q :=
 Wp.bnd (sstL_at hb hc hl ho hn) (k _ (Chg.set (.inr rfl)) rfl (by simp))
theorem Chg.keepsS {S : Nat → Prop} {h h1 h2 : AHeap} (a : Keeps h h1) (c : Chg S h1 h2) (hs : ∀ y, S y → h.next ≤ y) : Keeps h h2 := Chg.beh a c fun y hy q => by have := hs y q; omega
end Gx
namespace Gx
open Go
theorem Wp.newE {R : Type} {Q : R → Prop} {h : AHeap} {B : ABlk} {f : AHeap → Option R} (k : ∀ H : AHeap, H = h.new B → Keeps h H → H.next = h.next + 1 → H.get h.next = some B → Wp (f H) Q) : Wp (newK h B f) Q :=
 k _ rfl (Keeps.new h B) rfl (by simp)
end Gx
namespace Gx
open Go Go.RowKit
section
variable {G : Nat} {P : Program}
theorem Step.belowX {μ : BMap} {h : AHeap} {w w' : World} (s : Sim G μ h w) (b : Below w.heap.size w w') : Step G μ h w μ h w' where
 sim := by
  refine ⟨fun x B hx => ?_, s.inj, s.lt, s.glob, s.gle⟩
  obtain ⟨c, d, z, O, hm, hO, hr⟩ := s.blk x B hx
  exact ⟨c, d, z, O, hm, by rw [b.block c (Array.getElem?_eq_some_iff.1 hO).1]; exact hO, hr⟩
 nx := Nat.le_refl _
 same := fun _ _ => rfl
 os := b.os
 tape := b.tape
 output := b.output
 size := b.size
 old := fun c hc _ => b.block c hc
 img := fun x B p hb hn _ => absurd (s.lt x B hb) (by omega)
 keep := fun x B' hb _ => ⟨B', hb, id⟩
theorem fnS_calls {g : FuncId} {fn : Func} {c : Code} {args : List Value} {h : AHeap} {v : Value} (hf : P.funcs[g]? = some fn) (hb : fn.body = some c) (hname : (fn.name == "runtime.NumGoroutine") = false)
  (k : ∀ (μ : BMap) (w : World) (args' : List Value), Sim G μ h w → VRs μ args args' → ∃ v', VR μ v v' ∧ Calls P g ⟨args'⟩ w fun e w' => e = .returned v' ∧ Below w.heap.size w w') : FnS P G g args h v h := by
 refine ⟨Nat.le_refl _, fun μ w args' s _ hv o a next Q hnext => ?_⟩
 have hcall : (callFunc g ⟨args'⟩).run P w = .ok (.enter g ⟨args'⟩) w := by
  have hne : ¬ fn.name = "runtime.NumGoroutine" := by simpa using hname
  simp [callFunc, hf, hne, hb]
 rw [hcall, Oper.upon_enter]
 obtain ⟨v', hv', hc⟩ := k μ w args' s hv
 refine hc.mono ?_
 rintro e w' ⟨rfl, hbw⟩
 exact hnext v' w' ⟨μ, hv', Step.belowX s hbw⟩
def unstrs : List Value → Option (List ByteArray)
 | [] => some []
 | .string s :: l => match unstrs l with
  | some t => some (s :: t)
  | none => none
 | _ => none
theorem unstrs_eq : ∀ {l : List Value} {xs : List ByteArray}, unstrs l = some xs → l = xs.map Value.string
 | [], xs, h => by simp [unstrs] at h; subst h; rfl
 | v :: l, xs, h => by
  unfold unstrs at h
  split at h
  ·rename_i e; cases e
  ·rename_i s l0 e
   cases e
   split at h
   ·rename_i t ht
    cases h
    rw [unstrs_eq ht]; rfl
   ·cases h
  ·cases h
theorem unstrs_map (xs : List ByteArray) : unstrs (xs.map Value.string) = some xs := by
 induction xs with
 | nil => rfl
 | cons x xs ih => simp [unstrs, ih]
end
end Gx
namespace Gx
open Go Go.RowKit
open Go.Proofs (encStr)
section
variable {G : Nat} {P : Program}
theorem Step.newBelow {μ : BMap} {h : AHeap} {w w' : World} (s : Sim G μ h w) (b : Below w.heap.size w w') (zn : μ h.next = none) {B : ABlk} {O : Obj} {g z : Nat} (hg : w.heap.size ≤ g) (hO : w'.heap[g]? = some O)
  (hB : BR (μ.put h.next (g, 0, z)) 0 z B O) : Step G μ h w (μ.put h.next (g, 0, z)) (h.new B) w' where
 sim := by
  have le := BMap.put_le (p := (g, 0, z)) zn
  have hlt : ∀ b B, h.get b = some B → b ≠ h.next := fun b B hb e => by have := s.lt b B hb; omega
  have old : ∀ b B p, h.get b = some B → (μ.put h.next (g, 0, z)) b = some p → μ b = some p ∧ p.1 < w.heap.size := fun b B p hb hp => by
   have hne := hlt b B hb
   simp [BMap.put, hne] at hp
   obtain ⟨c, d, z', O, hm, hO, _⟩ := s.blk b B hb
   rw [hm] at hp; cases hp
   exact ⟨hm, (Array.getElem?_eq_some_iff.1 hO).1⟩
  refine ⟨fun x B' hb => ?_, fun b₁ b₂ B₁ B₂ p₁ p₂ h1 h2 hne hr m1 m2 => ?_, fun b B' hb => ?_, fun g' hg' => ?_, Nat.le_succ_of_le s.gle⟩
  ·rw [AHeap.get_new] at hb
   split at hb
   ·rename_i e; subst e; cases hb
    exact ⟨g, 0, z, O, by simp [BMap.put], hO, hB⟩
   ·rename_i e
    obtain ⟨c, d, z', O', hm, hO', hr⟩ := s.blk x B' hb
    refine ⟨c, d, z', O', le _ _ hm, ?_, hr.mono le⟩
    rw [b.block c (Array.getElem?_eq_some_iff.1 hO').1]; exact hO'
  ·rw [AHeap.get_new] at h1 h2
   split at h1
   ·rename_i e1
    split at h2
    ·rename_i e2; exact absurd (e1.trans e2.symm) hne
    ·have := (old b₂ B₂ p₂ h2 m2).2
     simp [BMap.put, e1] at m1; subst m1; simp only; omega
   ·split at h2
    ·rename_i e2
     have := (old b₁ B₁ p₁ h1 m1).2
     simp [BMap.put, e2] at m2; subst m2; simp only; omega
    ·exact s.inj b₁ b₂ B₁ B₂ p₁ p₂ h1 h2 hne hr (old _ _ _ h1 m1).1 (old _ _ _ h2 m2).1
  ·rw [AHeap.get_new] at hb
   rw [AHeap.next_new]
   split at hb
   ·omega
   ·have := s.lt b B' hb; omega
  ·obtain ⟨z', hz⟩ := s.glob g' hg'
   exact ⟨z', le _ _ hz⟩
 nx := Nat.le_succ _
 same := fun b hb => by
  rw [AHeap.next_new] at hb
  simp only [BMap.put]
  rw [if_neg (by omega)]
 os := b.os
 tape := b.tape
 output := b.output
 size := b.size
 old := fun c hc _ => b.block c hc
 img := fun b B' p hb hn hp => by
  rw [AHeap.get_new] at hb
  split at hb
  ·rename_i e; simp [BMap.put, e] at hp; subst hp; exact .inl hg
  ·have := s.lt b B' hb; omega
 keep := fun b B' hb hlt => by
  rw [AHeap.get_new] at hb
  rw [if_neg (by omega)] at hb
  exact ⟨B', hb, id⟩
theorem fnS_callsN {g : FuncId} {fn : Func} {c : Code} {args : List Value} {h h' : AHeap} {v : Value} (hf : P.funcs[g]? = some fn) (hb : fn.body = some c) (hname : (fn.name == "runtime.NumGoroutine") = false) (hn : h.next ≤ h'.next)
  (k : ∀ (μ : BMap) (w : World) (args' : List Value), Sim G μ h w → Zed μ h.next h'.next → VRs μ args args' → Calls P g ⟨args'⟩ w fun e w' => ∃ μ' v', e = .returned v' ∧ VR μ' v v' ∧ Step G μ h w μ' h' w') : FnS P G g args h v h' := by
 refine ⟨hn, fun μ w args' s z hv o a next Q hnext => ?_⟩
 have hcall : (callFunc g ⟨args'⟩).run P w = .ok (.enter g ⟨args'⟩) w := by
  have hne : ¬ fn.name = "runtime.NumGoroutine" := by simpa using hname
  simp [callFunc, hf, hne, hb]
 rw [hcall, Oper.upon_enter]
 refine (k μ w args' s z hv).mono ?_
 rintro e w' ⟨μ', v', rfl, h1, h2⟩
 exact hnext v' w' ⟨μ', h1, h2⟩
def keysL (es : List (Value × Value × Nat)) : Option (List ByteArray) := unstrs (es.map (·.1))
def sizesOk : List ByteArray → Bool
 | [] => true
 | s :: l => decide (s.size ≤ 9223372036854775807) && sizesOk l
theorem sizesOk_mem : ∀ {l : List ByteArray}, sizesOk l = true → ∀ s ∈ l, s.size ≤ 9223372036854775807
 | [], _, s, hs => by simp at hs
 | t :: l, h, s, hs => by
  simp only [sizesOk, Bool.and_eq_true, decide_eq_true_eq] at h
  rcases List.mem_cons.1 hs with rfl | hs
  ·exact h.1
  ·exact sizesOk_mem h.2 s hs
def mapGood (es : List (Value × Value × Nat)) (cl : Nat) (ks : List ByteArray) : Bool :=
 sizesOk ks && decide ks.Nodup && decide (es.map (·.2.2)).Nodup && es.all (fun e => decide (e.2.2 < cl)) && decide (ks.length * 16 ≤ 140737488355328)
def srt (ks : List ByteArray) : List Value := ((ks.map (·.data.toList)).mergeSort leB).map encStr
def boxMap (h : AHeap) (bx : Nat) : Option (Option Nat) :=
 match h.get bx with
 | some (.cells (.map m :: _) _ true _) => some m
 | _ => none
def sortedA (gk : FuncId) (e : TypeId) (args : List Value) (h : AHeap) : Option (Slc × AHeap) :=
 match args with
 | [.func (.func g) fr bd] => match fr.toList, bd.toList with
  | [], [.pointer (some a)] => bif decide (g = gk) && decide (a.off = 0) then
    match boxMap h a.block with
    | some none => some (⟨none, 0, 0⟩, h)
    | some (some r) => match h.get r with
     | some (.map es cl) => match keysL es with
      | some ks => bif mapGood es cl ks then (match ks with
       | [] => some (⟨none, 0, 0⟩, h)
       | k :: l => some (⟨some ⟨h.next, 0, some 2⟩, (k :: l).length, (k :: l).length⟩, h.new (.cells (srt (k :: l)) e true 18446744073709551616))) else none
      | none => none
     | _ => none
    | none => none
   else none
  | _, _ => none
 | _ => none
def eSorted (id gk : FuncId) (e : TypeId) : Ent := ⟨id, fun _ args h κ => (sortedA gk e args h).bind fun p => κ (.slice p.1.a p.1.len p.1.cap) p.2⟩
structure SortedC (P : Program) (f gk : FuncId) (e : TypeId) : Prop where
 cS : ∀ (bx b : Nat) (es : Array MapEntry) (clock : Nat) (ks : List ByteArray) (w : World), w.cell? ⟨bx, 0, none⟩ = some (.map (some b)) → w.heap[b]? = some (.map es clock) → es.toList.map (·.key) = ks.map Value.string →
  (∀ s ∈ ks, s.size ≤ 9223372036854775807) → MapKept.Stamped es clock → ks.length * 16 ≤ 140737488355328 →
  Calls P f #[.func (.func gk) #[] #[.pointer (some ⟨bx, 0, none⟩)]] w fun x w' => ∃ v, x = .returned v ∧ w'.ownsRow w.heap.size e 1 v ks.length (srt ks) ∧ (v = .slice none 0 0 ↔ ks = []) ∧ Below w.heap.size w w'
 cN : ∀ (bx : Nat) (w : World), w.cell? ⟨bx, 0, none⟩ = some (.map none) →
  Calls P f #[.func (.func gk) #[] #[.pointer (some ⟨bx, 0, none⟩)]] w fun x w' => x = .returned (.slice none 0 0) ∧ Below w.heap.size w w'
theorem MR_keys {μ : BMap} : ∀ {es : List (Value × Value × Nat)} {es' : List MapEntry} {ks : List ByteArray}, es.length = es'.length → (∀ (i : Nat) e e', es[i]? = some e → es'[i]? = some e' → MR μ e e') → es.map (·.1) = ks.map Value.string →
  es'.map (·.key) = ks.map Value.string ∧ es'.map (·.born) = es.map (·.2.2)
 | [], [], ks, _, _, hk => ⟨by simpa using hk, rfl⟩
 | [], _ :: _, _, hl, _, _ => by simp at hl
 | _ :: _, [], _, hl, _, _ => by simp at hl
 | e :: es, e' :: es', [], _, _, hk => by simp at hk
 | e :: es, e' :: es', k :: ks, hl, hm, hk => by
  simp only [List.map_cons, List.cons.injEq] at hk
  obtain ⟨i1, i2⟩ := MR_keys (es := es) (es' := es') (ks := ks) (by simpa using hl) (fun i x x' a b => hm (i + 1) x x' (by simpa using a) (by simpa using b)) hk.2
  obtain ⟨m1, m2, m3⟩ := hm 0 e e' rfl rfl
  rw [hk.1] at m1
  have : e'.key = .string k := by generalize e'.key = kk at m1; cases m1; rfl
  exact ⟨by simp [this, i1], by simp [i2, m3]⟩
theorem VRs.strings {μ : BMap} (l : List (List UInt8)) : VRs μ (l.map encStr) (l.map encStr) := by
 induction l with
 | nil => exact .nil μ
 | cons x l ih => exact .cons (.str _) ih
theorem sorted_ok {f gk : FuncId} {e : TypeId} {fn : Func} {c : Code} (hf : P.funcs[f]? = some fn) (hb : fn.body = some c) (hname : (fn.name == "runtime.NumGoroutine") = false) (hc : SortedC P f gk e) : EntOk P G (eSorted f gk e) := by
 intro R args h κ r hr
 simp only [eSorted, Option.bind_eq_some_iff] at hr
 obtain ⟨⟨ps, ph⟩, hA, hr⟩ := hr
 unfold sortedA at hA
 split at hA
 case h_2 => cases hA
 rename_i g fr bd
 split at hA
 case h_2 => cases hA
 rename_i a hfr hbd
 cases hg : (decide (g = gk) && decide (a.off = 0)) with
 | false => rw [hg] at hA; cases hA
 | true =>
  rw [hg, cond_true] at hA
  simp only [Bool.and_eq_true, decide_eq_true_eq] at hg
  obtain ⟨rfl, ha0⟩ := hg
  have args_inv : ∀ (μ : BMap) (w : World) (args' : List Value) (m : Option Nat), Sim G μ h w → VRs μ [.func (.func g) fr bd] args' → boxMap h a.block = some m →
    ∃ bx m', args' = [.func (.func g) #[] #[.pointer (some ⟨bx, 0, none⟩)]] ∧ w.cell? ⟨bx, 0, none⟩ = some (.map m') ∧ VR μ (.map m) (.map m') := by
   intro μ w args' m s hv hbx
   obtain ⟨v1, rfl, h1⟩ := hv.one_inv
   cases h1 with
   | func hx hy hxx hyy =>
    rename_i x' y'
    have ex : x' = #[] := by
     apply Array.eq_empty_of_size_eq_zero
     rw [← hx, ← Array.length_toList, hfr]; rfl
    have hy1 : y'.size = 1 := by rw [← hy, ← Array.length_toList, hbd]; rfl
    have hb0 : bd[0]? = some (.pointer (some a)) := by rw [← Array.getElem?_toList, hbd]; rfl
    obtain ⟨p', hp'⟩ : ∃ p', y'[0]? = some p' := ⟨y'[0], by simp [hy1]⟩
    have hvp := hyy 0 _ _ hb0 hp'
    have ey : y' = #[p'] := by
     apply Array.ext_getElem?
     intro i
     cases i with
     | zero => rw [hp']; rfl
     | succ i => simp [hy1]
    obtain ⟨b, o, cb, d, z, hab, rfl, hm⟩ := vr_ptr hvp
    have hab' : a = ⟨b, o, none⟩ := by simpa using hab
    subst hab'
    simp only at ha0; subst ha0
    unfold boxMap at hbx
    split at hbx
    ·rename_i m0 tl e0 fz0 hget
     cases hbx
     obtain ⟨c2, lo, hi, hO, _, hcs, hrw⟩ := s.obj hget hm
     obtain ⟨rfl, _, _⟩ := hrw rfl
     obtain ⟨v', q1, q2⟩ := hcs 0 _ rfl
     simp only [Nat.zero_add] at q1
     obtain ⟨m', rfl⟩ : ∃ m', v' = .map m' := by cases q2 <;> exact ⟨_, rfl⟩
     refine ⟨cb, m', by rw [ex, ey], ?_, q2⟩
     rw [cell_of_heap hO]; exact q1
    ·cases hbx
  split at hA
  ·rename_i hbx
   cases hA
   refine ⟨_, h, hr, fnS_calls hf hb hname fun μ w args' s hv => ⟨_, .nilSlice, ?_⟩⟩
   obtain ⟨bx, m', rfl, hcell, hm'⟩ := args_inv μ w args' none s hv hbx
   have : m' = none := by cases hm'; rfl
   subst this
   exact hc.cN bx w hcell
  ·rename_i rr hbx
   split at hA
   case h_2 => cases hA
   rename_i es cl hget
   split at hA
   case h_2 => cases hA
   rename_i ks hks
   cases hgd : mapGood es cl ks with
   | false => rw [hgd] at hA; cases hA
   | true =>
    rw [hgd, cond_true] at hA
    have hke := unstrs_eq hks
    simp only [mapGood, Bool.and_eq_true, decide_eq_true_eq, List.all_eq_true] at hgd
    obtain ⟨⟨⟨⟨g1, g2⟩, g3⟩, g4⟩, g5⟩ := hgd
    have key : ∀ (μ : BMap) (w : World) (args' : List Value), Sim G μ h w → VRs μ [.func (.func g) fr bd] args' →
      Calls P f ⟨args'⟩ w fun x w' => ∃ v, x = .returned v ∧ w'.ownsRow w.heap.size e 1 v ks.length (srt ks) ∧ (v = .slice none 0 0 ↔ ks = []) ∧ Below w.heap.size w w' := by
     intro μ w args' s hv
     obtain ⟨bx, m', rfl, hcell, hm'⟩ := args_inv μ w args' _ s hv hbx
     cases hm' with
     | map hm =>
      rename_i cc d zz
      obtain ⟨c', d', z', O, hm2, hO, hB⟩ := s.blk rr _ hget
      rw [hm] at hm2; cases hm2
      cases O with
      | map es' cl' =>
       obtain ⟨h1, h2, h3⟩ := hB
       subst h1
       obtain ⟨k1, k2⟩ := MR_keys (es' := es'.toList) (by simpa using h2) (by simpa using h3) hke
       refine hc.cS bx cc es' cl ks w hcell hO k1 (sizesOk_mem g1) ⟨fun x hx => ?_, by rw [k2]; exact g3, ?_⟩ g5
       ·have : x.born ∈ es'.toList.map (·.born) := List.mem_map.2 ⟨x, hx, rfl⟩
        rw [k2] at this
        obtain ⟨e0, he0, he1⟩ := List.mem_map.1 this
        rw [← he1]; exact g4 e0 he0
       ·rw [k1]
        exact List.Pairwise.map _ (fun a b hab hh => hab (by cases hh; rfl)) g2
      | _ => exact hB.elim
    split at hA
    ·cases hA
     refine ⟨_, h, hr, fnS_calls hf hb hname fun μ w args' s hv => ⟨_, .nilSlice, ?_⟩⟩
     refine (key μ w args' s hv).mono ?_
     rintro x w' ⟨v, rfl, _, hnil, hbw⟩
     exact ⟨by rw [hnil.2 rfl], hbw⟩
    ·rename_i k l
     cases hA
     refine ⟨_, _, hr, fnS_callsN hf hb hname (Nat.le_succ _) fun μ w args' s z hv => ?_⟩
     have zn : μ h.next = none := z h.next (Nat.le_refl _) (Nat.lt_succ_self _)
     refine (key μ w args' s hv).mono ?_
     rintro x w' ⟨v, rfl, ⟨hl, hrow⟩, hnil, hbw⟩
     rcases hrow with ⟨rfl, hz⟩ | ⟨gb, cap, cur, rfl, hbase, hO, r1, r2, r3, r4⟩
     ·simp at hz
     ·refine ⟨μ.put h.next (gb, 0, cur.size), _, rfl, .slice (c := gb) (d := 0) (z := cur.size) (by simp [BMap.put]) ?_, Step.newBelow s hbw zn hbase hO ?_⟩
      ·exact ⟨r1, by simp only [Nat.zero_add]; rw [r3]; exact Nat.le_refl _⟩
      ·refine ⟨rfl, rfl, fun i v hi => ?_, fun _ => ⟨rfl, fun i _ _ => by omega, fun m => absurd m (by decide)⟩⟩
       simp only [Nat.mul_one] at r4 hl
       have hi' := hi
       rw [← r4, List.getElem?_take] at hi'
       split at hi'
       ·rename_i hlt
        refine ⟨v, by simpa using hi', ?_⟩
        have := (VRs.strings (μ := μ.put h.next (gb, 0, cur.size)) ((((k :: l).map (fun s : ByteArray => s.data.toList)).mergeSort leB))).2 i v v hi hi
        exact this
       ·cases hi'
  ·cases hA
end
end Gx
namespace Gx
open Go Go.RowKit Go.Maps Go.Sort Go.Shelf Go.Proofs Go.WideElems
section
variable {P : Program}
theorem fold_keys {R : Value → Option (DataW Unit × List MemPlace)} {k : TypeId} (hk : P.underlying k = some .string) (hR : ∀ v, R v = some (.nil, [])) : ∀ {es : List MapEntry} {ks : List ByteArray}, es.map (·.key) = ks.map Value.string → (∀ s ∈ ks, s.size ≤ maxLen) →
  es.map (fun x => strOf (rg P k R x).1) = ks.map (fun s => s.data.toList) ∧ ∀ x ∈ es, ∃ y, rd P k R x = some y
 | [], [], _, _ => ⟨rfl, by simp⟩
 | [], _ :: _, h, _ => by simp at h
 | _ :: _, [], h, _ => by simp at h
 | e :: es, s :: ks, h, hs => by
  simp only [List.map_cons, List.cons.injEq] at h
  obtain ⟨i1, i2⟩ := fold_keys (es := es) (ks := ks) hk hR h.2 (fun x hx => hs x (by simp [hx]))
  have hkey : keyOf P k e.key = some (.string s.data.toList) := by rw [h.1]; exact Go.WideMaps.keyOf_string_mk hk (hs s (by simp))
  have hrd : rd P k R e = some (.string s.data.toList, .nil) := by unfold rd; rw [hkey, hR]; rfl
  refine ⟨by rw [List.map_cons, List.map_cons, i1, rg_of hrd]; rfl, fun x hx => ?_⟩
  rcases List.mem_cons.1 hx with rfl | hx
  ·exact ⟨_, hrd⟩
  ·exact i2 x hx
theorem sortedC_of {ρk ρs : Ren} (Lk : SlLaysZ.n7 P ρk) (Ls : SlLaysZ.n6 P ρs) (hsort : ∀ m, AnyZ.SortsIn P ρs Fence.wide m) (e9 : ∀ args w, (callFunc (ρs.f 9) args).run P w = .ok (.enter (ρs.f 9) args) w)
  (eg : ∀ args w, (callFunc (ρk.f 10) args).run P w = .ok (.enter (ρk.f 10) args) w) : SortedC P (ρs.f 6) (ρk.f 10) (ρs.t 26) where
 cS := by
  intro bx b es clock ks w hcell hO hks hsz hst hb
  have hm : maxLen = 9223372036854775807 := rfl
  have hsz' : ∀ s ∈ ks, s.size ≤ maxLen := fun s hs => by rw [hm]; exact hsz s hs
  let R : Value → Option (DataW Unit × List MemPlace) := fun _ => some (.nil, [])
  obtain ⟨f1, f2⟩ := fold_keys (R := R) Lk.t26 (fun _ => rfl) hks hsz'
  have hlen : es.size = ks.length := by have := congrArg List.length hks; simpa using this
  let D : DataW Unit := .map ((es.toList.map (rg P (ρk.t 26) R)).foldr DataW.insert [])
  have hown : w.ownsMap P (ρk.t 26) R b es.size D := ⟨es, clock, hO, ⟨by omega, hst, f2⟩, Nat.le_refl _, rfl⟩
  have hperm : (strKeys D).Perm (ks.map fun s => s.data.toList) := by
   show (List.map (fun p : Lit × DataW Unit => strOf p.1) _).Perm _
   have h1 := (Go.WideShapes.sorted_perm (es.toList.map (rg P (ρk.t 26) R))).map (fun p : Lit × DataW Unit => strOf p.1)
   rw [List.map_map] at h1
   rw [← f1]; exact h1
  have hsize : Maps.size D = ks.length := by
   have := hperm.length_eq
   simpa [strKeys, Maps.size, D] using this
  have hbx : bx < w.heap.size := by
   unfold World.cell? at hcell
   by_cases hh : bx < w.heap.size
   ·exact hh
   ·have : w.heap[bx]? = none := by simp; omega
    simp [this] at hcell
  refine (callsIn_wide (n := 5)).1 ?_
  have hseq : SeqGives Fence.wide 2 P (ρk.f 10) #[.pointer (some ⟨bx, 0, none⟩)] encStr (fun ss => ss.Perm (strKeys D)) (Maps.size D) w :=
   AnyZ.keys_gives (ρ := ρk) { Lk with } Fence.wide _ trivial rfl (by omega) bx b es.size D w hbx hcell hown
  refine (AnyZ.sorted_in Ls Fence.wide 5 trivial trivial trivial trivial rfl (by omega) (hsort _) e9 (ρk.f 10) #[.pointer (some ⟨bx, 0, none⟩)] trivial eg _ (Maps.size D) (by omega) (by omega) w hseq).mono ?_
  rintro x w' ⟨v, ss, rfl, hS, hrow, hnil, hbw⟩
  have hp := hS.trans hperm
  have hl : ss.length = ks.length := by simpa using hp.length_eq
  have hms : ss.mergeSort (fun x y => decide (x ≤ y)) = (ks.map fun s => s.data.toList).mergeSort leB := mergeSort_of_perm hp
  rw [hms, hl] at hrow
  exact ⟨v, rfl, hrow, by rw [hnil, ← List.length_eq_zero_iff, hl, List.length_eq_zero_iff], hbw⟩
 cN := by
  intro bx w hcell
  have hbx : bx < w.heap.size := by
   unfold World.cell? at hcell
   by_cases hh : bx < w.heap.size
   ·exact hh
   ·have : w.heap[bx]? = none := by simp; omega
    simp [this] at hcell
  refine (callsIn_wide (n := 5)).1 ?_
  have hseq : SeqGives Fence.wide 2 P (ρk.f 10) #[.pointer (some ⟨bx, 0, none⟩)] encStr (fun ss : List (List UInt8) => ss = []) 0 w :=
   AnyZ.keys_gives_nil (ρ := ρk) { Lk with } Fence.wide _ trivial rfl bx w hbx hcell
  refine (AnyZ.sorted_in Ls Fence.wide 5 trivial trivial trivial trivial rfl (by omega) (hsort _) e9 (ρk.f 10) #[.pointer (some ⟨bx, 0, none⟩)] trivial eg _ 0 (Nat.zero_le _) (by omega) w hseq).mono ?_
  rintro x w' ⟨v, ss, rfl, rfl, hrow, hnil, hbw⟩
  exact ⟨by rw [hnil.2 rfl], hbw⟩
end
end Gx
namespace Gx
open Go Go.RowKit
section
variable {G : Nat} {P : Program}
def itoaS (n : Int) : Option ByteArray := if 0 ≤ n ∧ n < 100 then some ⟨(Lib.decDigits n.toNat).toArray⟩ else none
def eItoa (id : FuncId) : Ent := ⟨id, fun _ args h κ => match args with
 | [.int k c] => bif decide (k = .i64) then (itoaS c).bind fun t => κ (.string t) h else none
 | _ => none⟩
theorem itoa_ok {f : FuncId} {fn : Func} {c : Code} (hf : P.funcs[f]? = some fn) (hb : fn.body = some c) (hname : (fn.name == "runtime.NumGoroutine") = false)
  (hc : ∀ (i : Nat) (w : World), i < 100 → Calls P f #[.int .i64 (i : Int)] w fun e w' => e = .returned (.string ⟨(Lib.decDigits i).toArray⟩) ∧ w' = w) : EntOk P G (eItoa f) := by
 intro R args h κ r hr
 simp only [eItoa] at hr
 split at hr
 ·rename_i k n
  cases hk : decide (k = IntKind.i64) with
  | false => rw [hk] at hr; cases hr
  | true =>
   rw [hk, cond_true] at hr
   have hk := of_decide_eq_true hk
   subst hk
   simp only [Option.bind_eq_some_iff] at hr
   obtain ⟨t, ht, hr⟩ := hr
   unfold itoaS at ht
   split at ht
   ·rename_i hg
    cases ht
    refine ⟨_, h, hr, fnS_calls hf hb hname fun μ w args' s' hv => ⟨_, .str _, ?_⟩⟩
    obtain ⟨v1, rfl, h1⟩ := hv.one_inv
    have e1 := vr_int h1
    subst e1
    have := hc n.toNat w (by omega)
    rw [Int.toNat_of_nonneg hg.1] at this
    refine this.mono ?_
    rintro e w' ⟨rfl, rfl⟩
    exact ⟨rfl, .refl _ _⟩
   ·cases ht
 ·cases hr
end
end Gx
namespace Gx
open Go Go.RowKit
section
variable {G : Nat} {P : Program}
theorem FnS.calls {fn : Func} {g : FuncId} {args : List Value} {h h' : AHeap} {v : Value} (hF : FnS P G g args h v h') (hf : P.funcs[g]? = some fn) (hb : fn.body.isSome = true) (hname : (fn.name == "runtime.NumGoroutine") = false)
  {μ : BMap} {w : World} {args' : List Value} (s : Sim G μ h w) (z : Zed μ h.next h'.next) (hv : VRs μ args args') :
  Calls P g ⟨args'⟩ w fun e w' => ∃ v' μ', e = .returned v' ∧ VR μ' v v' ∧ Step G μ h w μ' h' w' := by
 have hcall : (callFunc g ⟨args'⟩).run P w = .ok (.enter g ⟨args'⟩) w := by
  have hne : ¬ fn.name = "runtime.NumGoroutine" := by simpa using hname
  obtain ⟨c, hc⟩ := Option.isSome_iff_exists.1 hb
  simp [callFunc, hf, hne, hc]
 have := hF.2 μ w args' s z hv ⟨some 0, .move (.tmp 0), 0, "", #[], none⟩ { tmps := #[undef], defers := [] }
  (fun a' w' => ∃ v' μ', a'.tmps = #[v'] ∧ VR μ' v v' ∧ Step G μ h w μ' h' w') (fun _ _ _ => False) (fun v' w' ⟨μ', h1, h2⟩ => ⟨v', μ', by simp [Act.put], h1, h2⟩)
 rw [hcall, Oper.upon_enter] at this
 refine Calls.mono this fun e w' he => ?_
 cases e with
 | returned u =>
  obtain ⟨v', μ', e, h1, h2⟩ := he
  simp [Act.put] at e
  subst e
  exact ⟨_, μ', rfl, h1, h2⟩
 | panicked ch => exact he.elim
 | outgrown => obtain ⟨_, _, hh⟩ := he; exact hh.elim
theorem Step.below {μ μ' : BMap} {h h' : AHeap} {w w' : World} (st : Step G μ h w μ' h' w') (hro : ∀ b B, h.get b = some B → B.isRW = false) : Below w.heap.size w w' :=
 ⟨st.os, st.tape, st.output, st.size, fun k hk => st.old k hk fun b B p hb hrw => by rw [hro b B hb] at hrw; cases hrw⟩
def h0 : AHeap := ⟨0, fun _ => none⟩
theorem sim0 (w : World) : Sim 0 (fun _ => none) h0 w :=
 ⟨(fun _ _ h => nomatch h), (fun _ _ _ _ _ _ h => nomatch h), (fun _ _ h => nomatch h), (fun g h => absurd h (Nat.not_lt_zero g)), Nat.le_refl _⟩
theorem law_calls {fn : Func} {g : FuncId} {e : Ent} (he : EntOk P G e) (hg : e.id = g) (hf : P.funcs[g]? = some fn) (hb : fn.body.isSome = true) (hname : (fn.name == "runtime.NumGoroutine") = false) {args : List Value} {h : AHeap}
  (hrun : e.run Bool args h (fun v _ => match v with | .bool b => some b | _ => none) = some true) {μ : BMap} {w : World} {args' : List Value} (s : Sim G μ h w) (z : ∀ b, h.next ≤ b → μ b = none) (hv : VRs μ args args') (hro : ∀ b B, h.get b = some B → B.isRW = false) :
  Calls P g ⟨args'⟩ w fun e w' => e = .returned (.bool true) ∧ Below w.heap.size w w' := by
 obtain ⟨v, h', hk, hF⟩ := he Bool args h _ true hrun
 subst hg
 refine Calls.mono (hF.calls hf hb hname s (fun b hb _ => z b hb) hv) ?_
 rintro e w' ⟨v', μ', rfl, h1, h2⟩
 refine ⟨?_, h2.below hro⟩
 split at hk
 ·cases hk; rw [vr_bool h1]
 ·cases hk
end
end Gx
namespace Gx
open Go Go.RowKit Go.ChangeShapes Go.WideShapes
structure Start (w : World) (μ : BMap) (h : AHeap) (G : Nat := 0) : Prop where
 sim : Sim G μ h w
 z : ∀ b, h.next ≤ b → μ b = none
 ro : ∀ b B, h.get b = some B → B.isRW = false
theorem Start.zero (w : World) : Start w (fun _ => none) h0 := ⟨sim0 w, fun _ _ => rfl, fun b B hb => by cases hb⟩
theorem put_self (μ : BMap) (b : Nat) (p : Nat × Nat × Nat) : (μ.put b p) b = some p := by simp [BMap.put]
theorem Start.add {G : Nat} {w : World} {μ : BMap} {h : AHeap} (S : Start w μ h G) {c d : Nat} {arr : Array Value} {e : TypeId} {fz : Nat × Nat} (hO : w.heap[c]? = some (.cells arr e fz)) {cs : List Value}
  (hc : ∀ (i : Nat) v, cs[i]? = some v → ∃ v', arr[d + i]? = some v' ∧ VR μ v v') : Start w (μ.put h.next (c, d, arr.size)) (h.new (.cells cs e false 0)) G := by
 have le := BMap.put_le (p := (c, d, arr.size)) (S.z h.next (Nat.le_refl _))
 refine ⟨⟨fun b B hb => ?_, fun b₁ b₂ B₁ B₂ p₁ p₂ h1 h2 _ hr _ _ => ?_, fun b B hb => ?_, fun g hg => let ⟨z, hz⟩ := S.sim.glob g hg; ⟨z, le _ _ hz⟩, Nat.le_trans S.sim.gle (by simp)⟩, fun b hb => ?_, fun b B hb => ?_⟩
 ·rw [AHeap.get_new] at hb
  split at hb
  ·rename_i e'; subst e'; cases hb
   exact ⟨c, d, arr.size, _, put_self _ _ _, hO, rfl, rfl, fun i v hv => let ⟨v', h1, h2⟩ := hc i v hv; ⟨v', h1, h2.mono le⟩, fun hf => by cases hf⟩
  ·obtain ⟨c', d', z', O', hm, hO', hr⟩ := S.sim.blk b B hb
   exact ⟨c', d', z', O', le _ _ hm, hO', hr.mono le⟩
 ·rw [AHeap.get_new] at h1
  split at h1
  ·cases h1; cases hr
  ·rw [S.ro b₁ B₁ h1] at hr; cases hr
 ·rw [AHeap.get_new] at hb
  split at hb
  ·rename_i e'; subst e'; simp
  ·have := S.sim.lt b B hb; simp; omega
 ·simp only [AHeap.next_new] at hb
  have : b ≠ h.next := by omega
  simp only [BMap.put, this, if_false]
  exact S.z b (by omega)
 ·rw [AHeap.get_new] at hb
  split at hb
  ·cases hb; rfl
  ·exact S.ro b B hb
def AHeap.hole (h : AHeap) : AHeap := ⟨h.next + 1, h.get⟩
theorem Start.hole {G : Nat} {w : World} {μ : BMap} {h : AHeap} (S : Start w μ h G) (p : Nat × Nat × Nat) : Start w (μ.put h.next p) h.hole G := by
 have le := BMap.put_le (p := p) (S.z h.next (Nat.le_refl _))
 refine ⟨⟨fun b B hb => ?_, fun b₁ b₂ B₁ B₂ p₁ p₂ h1 h2 _ hr _ _ => ?_, fun b B hb => ?_, fun g hg => let ⟨z, hz⟩ := S.sim.glob g hg; ⟨z, le _ _ hz⟩, Nat.le_trans S.sim.gle (Nat.le_succ _)⟩, fun b hb => ?_, fun b B hb => S.ro b B hb⟩
 ·obtain ⟨c', d', z', O', hm, hO', hr⟩ := S.sim.blk b B hb
  exact ⟨c', d', z', O', le _ _ hm, hO', hr.mono le⟩
 ·rw [S.ro b₁ B₁ h1] at hr; cases hr
 ·have := S.sim.lt b B hb
  show b < h.next + 1
  omega
 ·have hb : h.next + 1 ≤ b := hb
  have : b ≠ h.next := by omega
  simp only [BMap.put, this, if_false]
  exact S.z b (by omega)
theorem Keeps.hole (h : AHeap) : Keeps h h.hole := ⟨Nat.le_succ _, fun _ _ _ => rfl⟩
structure More (w : World) (μ : BMap) (h : AHeap) (μ' : BMap) (h' : AHeap) (G : Nat := 0) : Prop where
 st : Start w μ' h' G
 le : BLe μ μ'
 kp : Keeps h h'
theorem Start.row {G : Nat} {α : Type} {enc : α → Value} (pl : ∀ x, plainV (enc x) = true) {w : World} {μ : BMap} {h : AHeap} (S : Start w μ h G) {a : Addr} {len cap : Nat} {zs : List α} (hz : zs.length = cap) (hl : len ≤ cap)
  (hc : ∀ (i : Nat) x, zs[i]? = some x → w.cell? (a.add i) = some (enc x)) :
  ∃ μ' h' s, More w μ h μ' h' G ∧ VR μ' (.slice s.a s.len s.cap) (.slice (some a) len cap) ∧ Row enc h' s (zs.take len) ∧ ∀ b, s.a = some b → b.block < h'.next ∧ h.next ≤ b.block := by
 by_cases h0 : cap = 0
 ·obtain rfl : len = 0 := by omega
  have hzn : zs = [] := List.length_eq_zero_iff.1 (hz.trans h0)
  refine ⟨_, h.hole, ⟨some ⟨h.next, 0, none⟩, 0, 0⟩, ⟨S.hole (0, 0, 0), BMap.put_le (S.z _ (Nat.le_refl _)), .hole h⟩, ?_, ?_, ?_⟩
  ·subst h0; exact .empty fun _ => rfl
  ·rw [hzn]; exact Row.nil _ _ _ _
  ·intro b hb; cases hb; exact ⟨Nat.lt_succ_self _, Nat.le_refl _⟩
 ·obtain ⟨x0, hx0⟩ := isome (l := zs) (i := 0) (by omega)
  have c0 := hc 0 x0 hx0
  obtain ⟨b, off, sp⟩ := a
  have hsp : sp = none := by simpa [Addr.add] using World.cell?_spot c0
  subst hsp
  have cell : ∀ (i : Nat) x, zs[i]? = some x → w.cell? ⟨b, off + i, none⟩ = some (enc x) := fun i x hx => by rw [← add_plain]; exact hc i x hx
  obtain ⟨arr, e, fz, hO⟩ : ∃ arr e fz, w.heap[b]? = some (.cells arr e fz) := by
   have := cell 0 x0 hx0
   unfold World.cell? at this
   split at this
   ·rename_i c e fz hh; exact ⟨c, e, fz, hh⟩
   ·cases this
  have arrs : ∀ (i : Nat) x, zs[i]? = some x → arr[off + i]? = some (enc x) := fun i x hx => by
   have := cell i x hx
   unfold World.cell? at this
   rw [hO] at this
   simpa using this
  have A := S.add (d := off) (cs := zs.map enc) hO (fun i v hv => by
   rw [List.getElem?_map] at hv
   cases hx : zs[i]? with
   | none => rw [hx] at hv; cases hv
   | some x => rw [hx] at hv; cases hv; exact ⟨_, arrs i x hx, .of_plain (pl x)⟩)
  refine ⟨_, _, ⟨some ⟨h.next, 0, none⟩, len, cap⟩, ⟨A, BMap.put_le (S.z _ (Nat.le_refl _)), Keeps.new h _⟩, ?_, ?_, ?_⟩
  ·exact .slice (put_self _ _ _) rfl
  ·have := Row.of_block (enc := enc) (h := h.new (.cells (zs.map enc) e false 0)) (xs := zs.take len) (b := h.next) (o := 0) (sp := none) (cap := cap) (c := zs.map enc) (e := e) (r := false) (fz := 0) (by simp) (by simp) (fun i x hx => by
    rw [Nat.zero_add, List.getElem?_map]
    rw [List.getElem?_take] at hx
    split at hx
    ·rw [hx]; rfl
    ·cases hx)
   rw [List.length_take, hz, Nat.min_eq_left hl] at this
   exact this
  ·intro b hb; cases hb; simp
section
variable {H : Type} {enc : TypeId × Value → H} {P : Program} {w : World} {r : Reach} {base : Nat} {t e : TypeId} {v : Value} {d : DataW H} {ps : List MemPlace} {μ : BMap} {h : AHeap}
theorem trodAll_after (hl : laidOutB P = true) {W' : World} (hb : Below w.heap.size w W') : ∀ {ts : List TypeId} {vs : List Value} {ds : List (DataW H)} {ps : List MemPlace}, (∀ t ∈ ts, P.readableRec t = true ∧ t < P.types.size) →
  DataW.TrodAll enc P w 0 (fun _ => true) true ts vs ds ps → DataW.TrodAll enc P W' 0 (fun b => decide (b < w.heap.size)) true ts vs ds ps
 | [], [], [], ps, _, h => h
 | t :: ts, v :: vs, d :: ds, ps, hr, h => by
  have hlt := DataW.TrodAll.lt h
  obtain ⟨p, q, h1, h2, rfl⟩ := h
  exact ⟨p, q, Below.trod hl (hr t (by simp)).1 (hr t (by simp)).2 h1 hb (fun x hx => hlt x (by simp [hx])), trodAll_after hl hb (fun t ht => hr t (by simp [ht])) h2, rfl⟩
 | [], [], _ :: _, _, _, h => nomatch h
 | [], _ :: _, [], _, _, h => nomatch h
 | [], _ :: _, _ :: _, _, _, h => nomatch h
 | _ :: _, [], [], _, _, h => nomatch h
 | _ :: _, [], _ :: _, _, _, h => nomatch h
 | _ :: _, _ :: _, [], _, _, h => nomatch h
end
end Gx
namespace Gx
open Go Go.RowKit Go.ChangeShapes Go.WideShapes
inductive DT where
 | int (k : IntKind) | bool | str | unit
 | pair (a b : DT)
 | list (t : DT)
def DT.w : DT → Nat
 | .int _ => 1
 | .bool => 1
 | .str => 1
 | .unit => 0
 | .pair a b => a.w + b.w
 | .list _ => 1
abbrev DT.V : DT → Type
 | .int _ => Int
 | .bool => Bool
 | .str => ByteArray
 | .unit => Unit
 | .pair a b => a.V × b.V
 | .list t => List t.V
def Rep (h : AHeap) : (t : DT) → t.V → List Value → Prop
 | .int k, x, cs => cs = [.int k x] ∧ (Lit.int k x).wf = true
 | .bool, x, cs => cs = [.bool x]
 | .str, x, cs => cs = [.string x] ∧ x.size ≤ 9223372036854775807
 | .unit, _, cs => cs = []
 | .pair a b, x, cs => ∃ c1 c2, cs = c1 ++ c2 ∧ Rep h a x.1 c1 ∧ Rep h b x.2 c2
 | .list t, xs, cs => ∃ sl : Slc, cs = [.slice sl.a sl.len sl.cap] ∧ sl.len = xs.length ∧ (∀ a, sl.a = some a → a.block < h.next) ∧
   ∀ (i : Nat) (x : t.V), xs[i]? = some x → ∃ a c e r fz cx, sl.a = some a ∧ h.get a.block = some (.cells c e r fz) ∧ cx.length = t.w ∧ (∀ (j : Nat) (v : Value), cx[j]? = some v → c[a.off + i * t.w + j]? = some v) ∧ Rep h t x cx
theorem Rep.len {h : AHeap} : ∀ {t : DT} {x : t.V} {cs : List Value}, Rep h t x cs → cs.length = t.w
 | .int _, _, _, e => by rw [show _ = _ from e.1]; rfl
 | .bool, _, _, e => by rw [show _ = _ from e]; rfl
 | .str, _, _, e => by rw [show _ = _ from e.1]; rfl
 | .unit, _, _, e => by rw [show _ = _ from e]; rfl
 | .pair a b, _, _, ⟨c1, c2, e, h1, h2⟩ => by rw [e, List.length_append, Rep.len h1, Rep.len h2]; rfl
 | .list t, _, _, ⟨sl, e, _⟩ => by rw [e]; rfl
theorem Rep.keeps {h h' : AHeap} (k : Keeps h h') : ∀ {t : DT} {x : t.V} {cs : List Value}, Rep h t x cs → Rep h' t x cs
 | .int _, _, _, e => e
 | .bool, _, _, e => e
 | .str, _, _, e => e
 | .unit, _, _, e => e
 | .pair _ _, _, _, ⟨c1, c2, e, h1, h2⟩ => ⟨c1, c2, e, h1.keeps k, h2.keeps k⟩
 | .list _, _, _, ⟨sl, e, hl, hb, hx⟩ => ⟨sl, e, hl, fun a ha => Nat.lt_of_lt_of_le (hb a ha) k.nx, fun i x hi => by
   obtain ⟨a, c, ee, r, fz, cx, h1, h2, h3, h4, h5⟩ := hx i x hi
   exact ⟨a, c, ee, r, fz, cx, h1, (k.oth _ (hb a h1) fun f => f).trans h2, h3, h4, h5.keeps k⟩⟩
def shFs (P : Program) (g : TypeId → Option DT) : Nat → List Field → Option DT
 | _, [] => some .unit
 | off, f :: fs => if f.offset = off then (match g f.type with
   | some t => if P.cellsOf f.type = t.w then (match shFs P g (off + t.w) fs with
    | some r => some (.pair t r)
    | none => none) else none
   | none => none) else none
def repT (t : DT) : Nat → DT
 | 0 => .unit
 | n + 1 => .pair t (repT t n)
theorem repT_w (t : DT) : ∀ n, (repT t n).w = n * t.w
 | 0 => by simp [repT, DT.w]
 | n + 1 => by rw [repT, DT.w, repT_w t n, Nat.succ_mul, Nat.add_comm]
def shapeOf (P : Program) : Nat → TypeId → Option DT
 | 0, _ => none
 | d + 1, t => match P.underlying t with
  | some (.int k) => some (.int k)
  | some .bool => some .bool
  | some .string => some .str
  | some (.struct fs) => (match shFs P (shapeOf P d) 0 fs.toList with
    | some r => if P.cellsOf t = r.w then some r else none
    | none => none)
  | some (.array n e) => (match shapeOf P d e with
    | some r => if P.cellsOf e = r.w ∧ P.cellsOf t = n * r.w then some (repT r n) else none
    | none => none)
  | some (.slice e) => (match shapeOf P d e with
    | some r => if P.cellsOf e = r.w ∧ 0 < r.w then some (.list r) else none
    | none => none)
  | _ => none
section
variable {H : Type} {enc : TypeId × Value → H} {P : Program} {w : World} {G : Nat}
theorem More.refl {μ : BMap} {h : AHeap} (S : Start w μ h G) : More w μ h μ h G := ⟨S, .refl _, .refl _ _⟩
theorem More.trans {μ μ1 μ2 : BMap} {h h1 h2 : AHeap} (a : More w μ h μ1 h1 G) (b : More w μ1 h1 μ2 h2 G) : More w μ h μ2 h2 G := ⟨b.st, a.le.trans b.le, a.kp.trans b.kp⟩
def Opened (w : World) (G : Nat) (μ : BMap) (h : AHeap) (T : DT) (cs' : List Value) : Prop :=
 ∃ μ' h' v cs, More w μ h μ' h' G ∧ VRs μ' cs cs' ∧ Rep h' T v cs
def OpenAt (enc : TypeId × Value → H) (P : Program) (w : World) (G d : Nat) : Prop :=
 ∀ (t : TypeId) (T : DT), shapeOf P d t = some T → ∀ (μ : BMap) (h : AHeap), Start w μ h G → ∀ (n : Nat) (cs' : List Value) (x : DataW H × List MemPlace), DataW.trod enc P w 0 (fun _ => true) true n t cs' = some x → Opened w G μ h T cs'
theorem Opened.pair {μ : BMap} {h : AHeap} {a b : DT} {l : List Value} {off : Nat} (o1 : Opened w G μ h a ((l.drop off).take a.w))
  (o2 : ∀ μ' h', More w μ h μ' h' G → Opened w G μ' h' b ((l.drop (off + a.w)).take b.w)) : Opened w G μ h (.pair a b) ((l.drop off).take (a.w + b.w)) := by
 obtain ⟨μ1, h1, v1, c1, m1, r1, p1⟩ := o1
 obtain ⟨μ2, h2, v2, c2, m2, r2, p2⟩ := o2 μ1 h1 m1
 refine ⟨μ2, h2, (v1, v2), c1 ++ c2, m1.trans m2, ?_, c1, c2, rfl, p1.keeps m2.kp, p2⟩
 rw [List.take_add, List.drop_drop]
 exact (r1.mono m2.le).append r2
theorem open_fields {d : Nat} (ih : OpenAt enc P w G d) {n : Nat} {l : List Value} : ∀ (fs : List Field) (off : Nat) (T : DT), shFs P (shapeOf P d) off fs = some T →
  (∀ (i : Nat) f, fs[i]? = some f → ∃ x, DataW.trod enc P w 0 (fun _ => true) true n f.type ((l.drop f.offset).take (P.cellsOf f.type)) = some x) → ∀ (μ : BMap) (h : AHeap), Start w μ h G → Opened w G μ h T ((l.drop off).take T.w)
 | [], off, T, hs, _, μ, h, S => by
  simp only [shFs, Option.some.injEq] at hs; subst hs
  exact ⟨μ, h, (), [], .refl S, by simp [DT.w]; exact .nil _, rfl⟩
 | f :: fs, off, T, hs, hx, μ, h, S => by
  simp only [shFs] at hs
  split at hs
  ·rename_i ho
   split at hs
   ·rename_i t ht
    split at hs
    ·rename_i hw
     split at hs
     ·rename_i r hr
      cases hs
      obtain ⟨x, q⟩ := hx 0 f rfl
      rw [ho, hw] at q
      exact .pair (ih _ _ ht μ h S _ _ _ q) fun μ' h' m => open_fields ih fs _ r hr (fun i f' hi => hx (i + 1) f' (by simpa using hi)) μ' h' m.st
     ·cases hs
    ·cases hs
   ·cases hs
  ·cases hs
theorem open_items {d : Nat} (ih : OpenAt enc P w G d) {e : TypeId} {t : DT} (he : shapeOf P d e = some t) {n : Nat} {l : List Value} : ∀ (m k : Nat),
  (∀ i, i < m → ∃ x, DataW.trod enc P w 0 (fun _ => true) true n e ((l.drop ((k + i) * t.w)).take t.w) = some x) → ∀ (μ : BMap) (h : AHeap), Start w μ h G → Opened w G μ h (repT t m) ((l.drop (k * t.w)).take (repT t m).w)
 | 0, k, _, μ, h, S => ⟨μ, h, (), [], .refl S, by simp [repT, DT.w]; exact .nil _, rfl⟩
 | m + 1, k, hx, μ, h, S => by
  obtain ⟨x, q⟩ := hx 0 (by omega)
  rw [Nat.add_zero] at q
  refine .pair (ih _ _ he μ h S _ _ _ q) fun μ' h' mm => ?_
  rw [← Nat.succ_mul]
  exact open_items ih he m (k + 1) (fun i hi => by
   obtain ⟨x, q⟩ := hx (i + 1) (by omega)
   exact ⟨x, by rw [show k + 1 + i = k + (i + 1) by omega]; exact q⟩) μ' h' mm.st
theorem open_seq {T : DT} {ci : Nat → List Value} : ∀ (m : Nat), (∀ i, i < m → ∀ (μ : BMap) (h : AHeap), Start w μ h G → Opened w G μ h T (ci i)) → ∀ (μ : BMap) (h : AHeap), Start w μ h G →
  ∃ μ' h', ∃ (vs : List T.V) (cc : List (List Value)), More w μ h μ' h' G ∧ vs.length = m ∧ cc.length = m ∧ ∀ i, i < m → ∃ v c, vs[i]? = some v ∧ cc[i]? = some c ∧ VRs μ' c (ci i) ∧ Rep h' T v c
 | 0, _, μ, h, S => ⟨μ, h, [], [], .refl S, rfl, rfl, fun i hi => by omega⟩
 | m + 1, hx, μ, h, S => by
  obtain ⟨μ1, h1, vs, cc, m1, l1, l2, a1⟩ := open_seq m (fun i hi => hx i (by omega)) μ h S
  obtain ⟨μ2, h2, v, c, m2, r2, p2⟩ := hx m (by omega) μ1 h1 m1.st
  refine ⟨μ2, h2, vs ++ [v], cc ++ [c], m1.trans m2, by simp [l1], by simp [l2], fun i hi => ?_⟩
  by_cases hm : i < m
  ·obtain ⟨v', c', q1, q2, q3, q4⟩ := a1 i hm
   exact ⟨v', c', by rw [List.getElem?_append_left (by omega)]; exact q1, by rw [List.getElem?_append_left (by omega)]; exact q2, q3.mono m2.le, q4.keeps m2.kp⟩
  ·obtain rfl : i = m := by omega
   exact ⟨v, c, by rw [← l1]; simp, by rw [← l2]; simp, r2, p2⟩
theorem flatten_at {W : Nat} : ∀ {cc : List (List Value)}, (∀ c ∈ cc, c.length = W) → ∀ {i : Nat} {c : List Value}, cc[i]? = some c → ∀ (j : Nat) (v : Value), c[j]? = some v → cc.flatten[i * W + j]? = some v
 | [], _, i, c, h, _, _, _ => by simp at h
 | x :: cc, hw, 0, c, h, j, v, hv => by
  simp at h; subst h
  have hj : j < x.length := (List.getElem?_eq_some_iff.1 hv).1
  rw [List.flatten_cons, Nat.zero_mul, Nat.zero_add, List.getElem?_append_left hj]; exact hv
 | x :: cc, hw, i + 1, c, h, j, v, hv => by
  have := flatten_at (fun c hc => hw c (List.mem_cons_of_mem _ hc)) (cc := cc) (i := i) (c := c) (by simpa using h) j v hv
  have hx := hw x (List.mem_cons_self ..)
  rw [List.flatten_cons, List.getElem?_append_right (by rw [hx, Nat.succ_mul]; omega), hx, show (i + 1) * W + j - W = i * W + j by rw [Nat.succ_mul]; omega]
  exact this
theorem flatten_from {W : Nat} : ∀ {cc : List (List Value)}, (∀ c ∈ cc, c.length = W) → ∀ {k : Nat} {v : Value}, cc.flatten[k]? = some v → ∃ i j c, cc[i]? = some c ∧ c[j]? = some v ∧ k = i * W + j
 | [], _, k, v, h => by simp at h
 | x :: cc, hw, k, v, h => by
  have hx := hw x (List.mem_cons_self ..)
  rw [List.flatten_cons] at h
  by_cases hk : k < x.length
  ·rw [List.getElem?_append_left hk] at h
   exact ⟨0, k, x, rfl, h, by simp⟩
  ·rw [List.getElem?_append_right (by omega)] at h
   obtain ⟨i, j, c, h1, h2, h3⟩ := flatten_from (fun c hc => hw c (List.mem_cons_of_mem _ hc)) h
   exact ⟨i + 1, j, c, by simpa using h1, h2, by rw [Nat.succ_mul]; omega⟩
theorem add_add (a : Addr) (m j : Nat) : (a.add m).add j = a.add (m + j) := by
 simp only [Addr.add]
 by_cases h1 : m = 0
 ·subst h1; simp
 ·by_cases h2 : j = 0
  ·subst h2; simp
  ·simp [h1, h2, Nat.add_assoc]
theorem open_all : ∀ d, OpenAt enc P w G d
 | 0 => fun t T h => by simp [shapeOf] at h
 | d + 1 => by
  intro t T hT μ h S n cs' x hf
  simp only [shapeOf] at hT
  split at hT
  ·rename_i k hk
   cases hT
   obtain ⟨m, rfl, _, hw⟩ := DataW.trod_int hk hf
   exact ⟨μ, h, m, [.int k m], .refl S, .cons (.int _ _) (.nil _), rfl, hw⟩
  ·rename_i hk
   cases hT
   obtain ⟨m, rfl, _⟩ := DataW.trod_bool hk hf
   exact ⟨μ, h, m, [.bool m], .refl S, .cons (.bool _) (.nil _), rfl⟩
  ·rename_i hk
   cases hT
   obtain ⟨m, rfl, _, hw⟩ := DataW.trod_string hk hf
   exact ⟨μ, h, m, [.string m], .refl S, .cons (.str _) (.nil _), rfl, hw⟩
  ·rename_i fs hk
   split at hT
   ·rename_i r hr
    split at hT
    ·rename_i hw
     have hT := Option.some.inj hT
     subst hT
     obtain ⟨xs, m, rfl, _, hl, hxl, hall⟩ := DataW.trod_struct hk hf
     have := open_fields (open_all d) (l := cs') (n := m) fs.toList 0 r hr (fun i f hi => by
      have hi' : fs[i]? = some f := by simpa using hi
      have hlt : i < xs.length := by rw [hxl]; exact (Array.getElem?_eq_some_iff.1 hi').1
      exact ⟨xs[i], by rw [hall i f hi']; simp [hlt]⟩) μ h S
     rw [List.drop_zero, ← hw, ← hl, List.take_length] at this
     exact this
    ·cases hT
   ·cases hT
  ·rename_i m e hk
   split at hT
   ·rename_i r hr
    split at hT
    ·rename_i hw
     cases hT
     obtain ⟨xs, mm, rfl, _, hl, hxl, hall⟩ := DataW.trod_array hk hf
     have := open_items (open_all d) hr (l := cs') (n := mm) m 0 (fun i hi => by
      refine ⟨xs[i]'(by omega), ?_⟩
      have := hall i hi
      rw [hw.1] at this
      rw [Nat.zero_add, this]; simp [hxl, hi]) μ h S
     rw [Nat.zero_mul, List.drop_zero, repT_w, ← hw.2, ← hl, List.take_length] at this
     exact this
    ·cases hT
   ·cases hT
  ·rename_i e hk
   split at hT
   ·rename_i r hr
    split at hT
    ·rename_i hw
     cases hT
     obtain ⟨hwc, hw0⟩ := hw
     rcases DataW.trod_slice hk hf with ⟨rfl, _⟩ | ⟨a, len, cap, elems, rest, m, _, rfl, _, _, hl, _, hlen, hel, hsp, _⟩
     ·exact ⟨μ, h, [], [.slice none 0 0], .refl S, .cons .nilSlice (.nil _), ⟨none, 0, 0⟩, rfl, rfl, (fun a ha => by cases ha), fun i x hx => by simp at hx⟩
     ·obtain ⟨hrl, hrest⟩ := hsp rfl
      have each : ∀ i, i < cap → ∃ ci x, w.cells? 0 (a.add (i * r.w)) r.w = some ci ∧ DataW.trod enc P w 0 (fun _ => true) true m e ci = some x := by
       intro i hi
       have hb : ∃ x, (w.cells? 0 (a.add (i * P.cellsOf e)) (P.cellsOf e)).bind (DataW.trod enc P w 0 (fun _ => true) true m e) = some x := by
        by_cases hil : i < len
        ·exact ⟨elems[i]'(by omega), by rw [hel i hil]; simp [hlen, hil]⟩
        ·have := hrest (i - len) (by omega)
         rw [show len + (i - len) = i by omega] at this
         exact ⟨rest[i - len]'(by omega), by rw [this]; simp⟩
       obtain ⟨x, hx⟩ := hb
       rw [hwc] at hx
       obtain ⟨ci, h1, h2⟩ := Option.bind_eq_some_iff.1 hx
       exact ⟨ci, x, h1, h2⟩
      have each' : ∀ i, i < cap → ((w.cells? 0 (a.add (i * r.w)) r.w).getD []).length = r.w ∧ (∀ j, j < r.w → w.cell? (a.add (i * r.w + j)) = ((w.cells? 0 (a.add (i * r.w)) r.w).getD [])[j]?) := by
       intro i hi
       obtain ⟨ci, x, h1, _⟩ := each i hi
       obtain ⟨_, q1, q2⟩ := World.cells?_some h1
       rw [h1, Option.getD_some]
       refine ⟨q1, fun j hj => ?_⟩
       have := q2 j hj
       rw [← this]
       rw [add_add]
      obtain ⟨μ1, h1, vs, cc, m1, lv, lc, al⟩ := open_seq (T := r) (ci := fun i => (w.cells? 0 (a.add (i * r.w)) r.w).getD []) cap (fun i hi μ h S => by
       obtain ⟨ci, x, q1, q2⟩ := each i hi
       simp only [q1, Option.getD_some]
       exact open_all d _ _ hr μ h S _ _ _ q2) μ h S
      have S1 := m1.st
      by_cases h0 : cap = 0
      ·subst h0
       obtain rfl : len = 0 := by omega
       refine ⟨_, h1.hole, [], [.slice (some ⟨h1.next, 0, none⟩) 0 0], ⟨S1.hole (0, 0, 0), m1.le.trans (BMap.put_le (S1.z _ (Nat.le_refl _))), m1.kp.trans (Keeps.hole h1)⟩, .cons (.empty fun _ => rfl) (.nil _), ⟨some ⟨h1.next, 0, none⟩, 0, 0⟩, rfl, rfl, fun a ha => ?_, fun i x hx => by simp at hx⟩
       cases ha; exact Nat.lt_succ_self _
      ·have c0 : ∃ v, w.cell? (a.add 0) = some v := by
        have := (each' 0 (by omega)).2 0 hw0
        rw [Nat.zero_mul] at this
        have hlt : 0 < ((w.cells? 0 (a.add 0) r.w).getD []).length := by
         have := (each' 0 (by omega)).1
         rw [Nat.zero_mul] at this; omega
        refine ⟨((w.cells? 0 (a.add 0) r.w).getD [])[0], ?_⟩
        rw [this]; simp [hlt]
       obtain ⟨v0, c0⟩ := c0
       obtain ⟨b, off, sp⟩ := a
       have hsp : sp = none := by simpa [Addr.add] using World.cell?_spot c0
       subst hsp
       obtain ⟨arr, ee, fz, hO⟩ : ∃ arr e fz, w.heap[b]? = some (.cells arr e fz) := by
        have := c0
        rw [add_plain] at this
        unfold World.cell? at this
        split at this
        ·rename_i c e fz hh; exact ⟨c, e, fz, hh⟩
        ·cases this
       have hcc : ∀ c ∈ cc, c.length = r.w := by
        intro c hc
        obtain ⟨i, hi⟩ := List.mem_iff_getElem?.1 hc
        have hlt : i < cap := by rw [← lc]; exact (List.getElem?_eq_some_iff.1 hi).1
        obtain ⟨v, c', _, q2, _, q4⟩ := al i hlt
        rw [hi] at q2; cases q2
        exact q4.len
       have A := S1.add (d := off) (cs := cc.flatten) hO (fun k v hv => by
        obtain ⟨i, j, c, q1, q2, rfl⟩ := flatten_from hcc hv
        have hlt : i < cap := by rw [← lc]; exact (List.getElem?_eq_some_iff.1 q1).1
        obtain ⟨v', c', _, r2, r3, _⟩ := al i hlt
        rw [q1] at r2; cases r2
        obtain ⟨u, u1, u2⟩ := r3.get q2
        have hj : j < r.w := by
         have := (List.getElem?_eq_some_iff.1 u1).1
         rw [(each' i hlt).1] at this; exact this
        have hc := (each' i hlt).2 j hj
        rw [u1, add_plain] at hc
        unfold World.cell? at hc
        rw [hO] at hc
        exact ⟨u, by simpa using hc, u2⟩)
       refine ⟨_, _, vs.take len, [.slice (some ⟨h1.next, 0, none⟩) len cap], ⟨A, m1.le.trans (BMap.put_le (S1.z _ (Nat.le_refl _))), m1.kp.trans (Keeps.new h1 _)⟩, .cons (.slice (put_self _ _ _) rfl) (.nil _), ⟨some ⟨h1.next, 0, none⟩, len, cap⟩, rfl, ?_, fun a ha => ?_, fun i x hx => ?_⟩
       ·show len = _; rw [List.length_take]; omega
       ·cases ha; simp
       ·rw [List.getElem?_take] at hx
        split at hx
        ·rename_i hi
         obtain ⟨v, c, q1, q2, _, q4⟩ := al i (by omega)
         rw [hx] at q1; cases q1
         refine ⟨_, cc.flatten, ee, false, 0, c, rfl, by simp, q4.len, fun j u hu => ?_, q4.keeps (Keeps.new h1 _)⟩
         rw [Nat.zero_add]
         exact flatten_at hcc q2 j u hu
        ·cases hx
    ·cases hT
   ·cases hT
  ·cases hT
theorem Start.data {μ : BMap} {h : AHeap} (S : Start w μ h G) {t : TypeId} {T : DT} {d : Nat} (hT : shapeOf P d t = some T) {v : Value} {dd : DataW H} {ps : List MemPlace} (hd : DataW.Trod enc P w 0 (fun _ => true) true t v dd ps) :
  ∃ μ' h' x cs, More w μ h μ' h' G ∧ VRs μ' cs v.cells.toList ∧ Rep h' T x cs := by
 obtain ⟨fuel, hf⟩ := hd
 obtain ⟨μ', h', x, cs, m, r, p⟩ := open_all d t T hT μ h S _ _ _ hf
 exact ⟨μ', h', x, cs, m, r, p⟩
theorem Start.dataL {μ : BMap} {h : AHeap} (S : Start w μ h G) {t e : TypeId} {T : DT} {d : Nat} (hT : shapeOf P d t = some (.list T)) (ht : P.underlying t = some (.slice e)) {r : Reach} {base : Nat} {v : Value} {dd : DataW H} {ps : List MemPlace} (hval : Value.okWide P w r base t v) (hd : DataW.Trod enc P w 0 (fun _ => true) true t v dd ps) :
  ∃ (μ' : BMap) (h' : AHeap) (s : Slc) (xs : List T.V), More w μ h μ' h' G ∧ VR μ' (.slice s.a s.len s.cap) v ∧ Rep h' (.list T) xs [.slice s.a s.len s.cap] := by
 obtain ⟨a0, len, cap, rfl⟩ := okWide_slice ht hval
 obtain ⟨μ', h', x, cs, m, vr, p⟩ := S.data hT hd
 have p0 := p
 obtain ⟨sl, rfl, _⟩ := p
 refine ⟨μ', h', sl, x, m, ?_, p0⟩
 obtain ⟨v', t', e', h1, h2⟩ := vr.cons_inv
 simp [Value.cells] at e'
 rw [e'.1]; exact h1
end
theorem Rep.each {h : AHeap} {t : DT} {xs : List t.V} {s : Slc} (r : Rep h (.list t) xs [.slice s.a s.len s.cap]) : ∀ x ∈ xs, ∃ cs, Rep h t x cs := by
 obtain ⟨sl, e, hl, hb, hx⟩ := r
 intro x hx'
 obtain ⟨i, hi⟩ := List.getElem?_of_mem hx'
 obtain ⟨a, c, ee, r, fz, cx, _, _, _, _, h5⟩ := hx i x hi
 exact ⟨cx, h5⟩
theorem Rep.lt {h : AHeap} {t : DT} {xs : List t.V} {s : Slc} (r : Rep h (.list t) xs [.slice s.a s.len s.cap]) : ∀ a, s.a = some a → a.block < h.next := by
 obtain ⟨sl, e, hl, hb, hx⟩ := r
 simp at e
 obtain ⟨e1, e2, e3⟩ := e
 intro a ha
 exact hb a (e1.symm.trans ha)
theorem Rep.rowW {h : AHeap} {t : DT} {s : Slc} {xs : List t.V} {α : Type} {f : t.V → α} {enc : α → List Value} (r : Rep h (.list t) xs [.slice s.a s.len s.cap]) (he : ∀ x cs, Rep h t x cs → cs = enc (f x)) : RowW t.w enc h s (xs.map f) := by
 obtain ⟨sl, e, hl, hb, hx⟩ := r
 simp at e
 obtain ⟨e1, e2, e3⟩ := e
 refine ⟨by rw [e2, hl, List.length_map], fun i y hi => ?_⟩
 rw [List.getElem?_map] at hi
 cases hx0 : xs[i]? with
 | none => rw [hx0] at hi; cases hi
 | some x =>
  rw [hx0] at hi; cases hi
  obtain ⟨a, c, ee, r, fz, cx, h1, h2, _, h4, h5⟩ := hx i x hx0
  have := he x cx h5
  exact ⟨a, c, ee, r, fz, e1.trans h1, hb a h1, h2, fun j v hv => h4 j v (by rw [this]; exact hv)⟩
end Gx
namespace Gx
open Go Go.RowKit Go.ChangeShapes Go.WideShapes
section
variable {H : Type} {enc : TypeId × Value → H} {P : Program} {w : World} {r : Reach} {base : Nat} {t e : TypeId} {v : Value} {d : DataW H} {ps : List MemPlace} {μ : BMap} {h : AHeap}
end
end Gx
namespace Gx
open Go Go.RowKit Go.ChangeShapes Go.WideShapes
section
variable {H : Type} {enc : TypeId × Value → H} {P : Program} {w : World} {r : Reach} {base : Nat} {t e : TypeId} {v : Value} {d : DataW H} {ps : List MemPlace} {μ : BMap}
end
end Gx
namespace Gx
open Go Go.RowKit Go.ChangeShapes Go.WideShapes
section
variable {H : Type} {enc : TypeId × Value → H} {P : Program} {w : World} {r : Reach} {base : Nat} {t e : TypeId} {v : Value} {d : DataW H} {ps : List MemPlace}
end
end Gx
namespace Gx
open Go
structure St where
 a : UInt32
 b : UInt32
 c : UInt32
 d : UInt32
 e : UInt32
 f : UInt32
 g : UInt32
 h : UInt32
def Sg0 (x : UInt32) : UInt32 := rotr x 2 ^^^ rotr x 13 ^^^ rotr x 22
def Sg1 (x : UInt32) : UInt32 := rotr x 6 ^^^ rotr x 11 ^^^ rotr x 25
def chO (e f g : UInt32) : UInt32 := (e &&& f) ^^^ (~~~e &&& g)
def maj (a b c : UInt32) : UInt32 := (a &&& b) ^^^ (a &&& c) ^^^ (b &&& c)
def tmpT (k w : UInt32) (s : St) : UInt32 := s.h + Sg1 s.e + chO s.e s.f s.g + k + w
def tmpU (s : St) : UInt32 := Sg0 s.a + maj s.a s.b s.c
def rnd (k w : UInt32) (s : St) : St := ⟨tmpT k w s + tmpU s, s.a, s.b, s.c, s.d + tmpT k w s, s.e, s.f, s.g⟩
def rounds (K W : Nat → UInt32) : Nat → St → St
 | 0, s => s
 | n + 1, s => rnd (K n) (W n) (rounds K W n s)
def shaK : List UInt32 := [
  0x428a2f98, 0x71374491, 0xb5c0fbcf, 0xe9b5dba5, 0x3956c25b, 0x59f111f1, 0x923f82a4, 0xab1c5ed5,
  0xd807aa98, 0x12835b01, 0x243185be, 0x550c7dc3, 0x72be5d74, 0x80deb1fe, 0x9bdc06a7, 0xc19bf174,
  0xe49b69c1, 0xefbe4786, 0x0fc19dc6, 0x240ca1cc, 0x2de92c6f, 0x4a7484aa, 0x5cb0a9dc, 0x76f988da,
  0x983e5152, 0xa831c66d, 0xb00327c8, 0xbf597fc7, 0xc6e00bf3, 0xd5a79147, 0x06ca6351, 0x14292967,
  0x27b70a85, 0x2e1b2138, 0x4d2c6dfc, 0x53380d13, 0x650a7354, 0x766a0abb, 0x81c2c92e, 0x92722c85,
  0xa2bfe8a1, 0xa81a664b, 0xc24b8b70, 0xc76c51a3, 0xd192e819, 0xd6990624, 0xf40e3585, 0x106aa070,
  0x19a4c116, 0x1e376c08, 0x2748774c, 0x34b0bcb5, 0x391c0cb3, 0x4ed8aa4a, 0x5b9cca4f, 0x682e6ff3,
  0x748f82ee, 0x78a5636f, 0x84c87814, 0x8cc70208, 0x90befffa, 0xa4506ceb, 0xbef9a3f7, 0xc67178f2]
def kAt (i : Nat) : UInt32 := shaK[i]?.getD 0
def st0 : St := ⟨0x6a09e667, 0xbb67ae85, 0x3c6ef372, 0xa54ff53a, 0x510e527f, 0x9b05688c, 0x1f83d9ab, 0x5be0cd19⟩
def hcells (l : List UInt32) (r : Slc) (long : Int) : List Value := l.map encU ++ [.slice r.a r.len r.cap, .int .i64 long]
structure KG (b : Nat) (h : AHeap) : Prop where
 lt : b < h.next
 ok : ∃ c e r fz, h.get b = some (.cells c e r fz) ∧ ∀ i, i < 64 → c[i]? = some (.int .u32 ((kAt i).toNat : Int))
theorem KG.chg {S : Nat → Prop} {b : Nat} {h h' : AHeap} (k : KG b h) (c : Chg S h h') (hs : ¬ S b) : KG b h' := by
 obtain ⟨l, e, r, fz, h1, h2⟩ := k.ok
 exact ⟨Nat.lt_of_lt_of_le k.lt c.nx, l, e, r, fz, (c.oth b k.lt hs).trans h1, h2⟩
theorem KG.ld {b : Nat} {h : AHeap} (k : KG b h) {i : Nat} (hi : i < 64) : ldI .u32 ⟨b, i, none⟩ h = some ((kAt i).toNat : Int) := by
 obtain ⟨l, e, r, fz, h1, h2⟩ := k.ok
 exact sldI_at h1 (h2 i hi)
end Gx
namespace Gx
open Go Go.RowKit Go.ChangeShapes Go.WideShapes
def hG (G g : Nat) (ty : TypeId) (l : List UInt32) : AHeap := ⟨G, fun b => if b = g then some (.cells (l.map encU) ty false 0) else none⟩
theorem Start.glob {w : World} {G g : Nat} (hg : g < G) {arr : Array Value} {ty : TypeId} {fz : Nat × Nat} {l : List UInt32} (hO : w.heap[g]? = some (.cells arr ty fz)) (hl : ∀ (i : Nat) (x : UInt32), l[i]? = some x → arr[i]? = some (.int .u32 (x.toNat : Int))) :
  Start w (fun b => if b < G then some (b, 0, if b = g then arr.size else 0) else none) (hG G g ty l) G := by
 refine ⟨⟨fun b B hb => ?_, fun b₁ b₂ B₁ B₂ p₁ p₂ h1 h2 _ hr _ _ => ?_, fun b B hb => ?_, fun x hx => ⟨_, if_pos hx⟩, Nat.le_refl _⟩, fun b hb => ?_, fun b B hb => ?_⟩
 ·simp only [hG] at hb
  split at hb
  ·rename_i e; subst e; cases hb
   refine ⟨b, 0, arr.size, _, by simp [hg], hO, rfl, rfl, fun i v hv => ?_, fun hf => by cases hf⟩
   rw [List.getElem?_map] at hv
   cases hx : l[i]? with
   | none => rw [hx] at hv; cases hv
   | some x =>
    rw [hx] at hv; cases hv
    exact ⟨_, by rw [Nat.zero_add]; exact hl i x hx, .int _ _⟩
  ·cases hb
 ·simp only [hG] at h1
  split at h1
  ·cases h1; cases hr
  ·cases h1
 ·simp only [hG] at hb
  split at hb
  ·rename_i e; subst e; exact hg
  ·cases hb
 ·have hb : G ≤ b := hb
  exact if_neg (by omega)
 ·simp only [hG] at hb
  split at hb
  ·cases hb; rfl
  ·cases hb
end Gx
namespace Gx
open Go Go.RowKit Go.ChangeShapes Go.WideShapes
section
variable {H : Type} {enc : TypeId × Value → H} {P : Program} {w : World} {G : Nat}
end
end Gx
