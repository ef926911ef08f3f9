import Derived.Test.YtgnljbdobbahkaaSp1
namespace Gc
open Go Gx Go.RowKit Go.Maps
structure Pw (h0 H : AHeap) (tb rb : Nat) (sl : Nat → Slc) (s : Slc) (F : Nat → List It) (n : Nat) : Prop where
 T : Tab h0.next H tb sl F
 L : LT h0.next H rb s (allF F)
 ap : ∀ y, TOwn tb sl y → ¬ LOwn rb s y
 kp : Keeps h0 H
 hr : RisesT F
 hin : InT F
 cnt : cntTo F 256 ≤ n
section
variable {k n tb rb xb : Nat} {h0 H H' : AHeap} {s s' : Slc} {sl sl' : Nat → Slc} {F F' : Nat → List It}
theorem Pw.keeps (W : Pw h0 H tb rb sl s F n) (c : Keeps H H') : Pw h0 H' tb rb sl s F n := ⟨W.T.keeps c, W.L.keeps c, W.ap, W.kp.trans c, W.hr, W.hin, W.cnt⟩
theorem Pw.up (W : Pw h0 H tb rb sl s F n) {m : Nat} (h : n ≤ m) : Pw h0 H tb rb sl s F m := ⟨W.T, W.L, W.ap, W.kp, W.hr, W.hin, Nat.le_trans W.cnt h⟩
theorem Pw.both (W : Pw h0 H tb rb sl s F n) {h1 h2 : AHeap} {m : Nat} (T : Tab h0.next h1 tb sl' F') (c : Chg (TOwn tb sl) H h1) (o : ∀ y, TOwn tb sl' y → H.next ≤ y ∨ TOwn tb sl y)
  (L : LT h0.next h2 rb s' (allF F')) (c2 : Chg (LOwn rb s) h1 h2) (o2 : ∀ y, LOwn rb s' y → h1.next ≤ y ∨ LOwn rb s y) (hr : RisesT F') (hin : InT F') (cn : cntTo F' 256 ≤ m) : Pw h0 h2 tb rb sl' s' F' m := by
 have x1 : ∀ y, TOwn tb sl' y → ¬ LOwn rb s y := fun y hy q => by
  rcases o y hy with e | e
  ·have := (W.L.own q).2; omega
  ·exact W.ap y e q
 refine ⟨T.chg c2 fun y hy q => x1 y hy q, L, fun y hy q => ?_, (W.kp.keepsS c fun y hy => (W.T.own hy).1).keepsS c2 fun y hy => (W.L.own hy).1, hr, hin, cn⟩
 rcases o2 y q with e | e
 ·have := (T.own hy).2; omega
 ·exact x1 y hy e
theorem plays_ask (hk : 10000 ≤ k) (W : Pw h0 H tb rb sl s F n) (hn : n ≤ 5000) (x : It) : Gx.Wp (law15_same k (DD k) (some ⟨tb, 0, none⟩) (some ⟨rb, 0, none⟩) x H) fun z => z.1 = true ∧ Keeps H z.2 :=
 alike_spec hk W.T W.L W.hr W.hin (fun i hi => Nat.le_trans (max_cnt W.cnt i hi) hn) (Nat.le_trans W.cnt hn) x
theorem plays_step (hk : 10000 ≤ k) {c : Slc} {l : List (DT.V ActD)} (R : Rep h0 (.list ActD) l [.slice c.a c.len c.cap]) {x : It} (gx : h0.get xb = some (.cells (itC x) 57 true 0)) (hxb : xb < h0.next) (j12 : AHeap → Option (Bool × AHeap)) (hj : ∀ H, Gx.Wp (j12 H) fun z => z.1 = true) (bot) :
  ∀ (d i : Nat) (H : AHeap) (sl : Nat → Slc) (s : Slc) (F : Nat → List It), i + d = 30 → Pw h0 H tb rb sl s F (30 * i) →
   Gx.Wp (iterK bot (d + 1) (law15_LookupPlays_l0b k (DD k) j12) c (some ⟨xb, 0, none⟩) (some ⟨tb, 0, none⟩) (some ⟨rb, 0, none⟩) (i : Int) H) fun z => z.1 = true := by
 have hcl := (rep_slc R).1
 intro d
 induction d with
 | zero =>
  intro i H sl s F hd W
  rw [iterK_s]; simp only [law15_LookupPlays_l0b]
  refine Gx.Wp.jn fun j27 h27 => ?_
  by_cases c0 : i < l.length
  ·refine .ifp (by rw [hcl]; simp; omega) ?_
   rw [h27]
   exact .ifn (by simp; omega) (hj H)
  ·refine .ifn (by rw [hcl]; simp; omega) ?_
   rw [h27]
   exact .ifn (by decide) (hj H)
 | succ d ih =>
  intro i H sl s F hd W
  rw [iterK_s]; simp only [law15_LookupPlays_l0b]
  refine Gx.Wp.jn fun j27 h27 => ?_
  by_cases c0 : i < l.length
  rotate_left
  ·refine .ifn (by rw [hcl]; simp; omega) ?_
   rw [h27]
   exact .ifn (by decide) (hj H)
  refine .ifp (by rw [hcl]; simp; omega) ?_
  rw [h27]
  refine .ifp (by simp; omega) (Gx.Wp.jn fun j34 h34 => ?_)
  have next : ∀ H sl s F, Pw h0 H tb rb sl s F (30 * (i + 1)) → Gx.Wp (j34 c (some ⟨xb, 0, none⟩) (some ⟨tb, 0, none⟩) (some ⟨rb, 0, none⟩) (i : Int) H) fun z => z.1 = true := fun H sl s F W => by
   rw [h34]
   dsimp only
   rw [Gx.w1 (by omega)]
   exact ih (i + 1) H sl s F (by omega) W
  obtain ⟨act, hact⟩ := isome (l := l) (i := i) c0
  obtain ⟨q, t, b1, Rt, bt, lds⟩ := rep_act R hact
  obtain ⟨ys, eys⟩ : ∃ ys, ys = act.2.1.map toIt := ⟨_, rfl⟩
  rw [← eys] at Rt
  refine .bnd b1 (.bnd (lds H W.kp).2 ?_)
  by_cases cl : 30 < ys.length
  ·exact .ifp (by rw [Rt.len]; simp; omega) (next H sl s F (W.up (by omega)))
  refine .ifn (by rw [Rt.len]; simp; omega) (Wp.newE fun h37 e37 k37 n37 g37 => ?_)
  have Rt37 := Rt.keeps (W.kp.trans k37)
  obtain ⟨o, h38, a38, Ro, k38, po⟩ := own_copy Rt37 k37 n37 (by omega) g37
  have W38 := W.keeps k38
  have nW := W.kp.nx
  have nW38 := W38.kp.nx
  refine .bnd (RowW.rdAll Rt37 itC_len (by decide)) (.bnd (by rw [Rt.len]; exact a38) (Gx.Wp.jn fun j47 h47 => ?_))
  have tail : ∀ H sl s F, Pw h0 H tb rb sl s F (30 * (i + 1)) → Gx.Wp (j47 c (some ⟨xb, 0, none⟩) (some ⟨tb, 0, none⟩) (some ⟨rb, 0, none⟩) (i : Int) t H) fun z => z.1 = true := fun H sl s F W => by
   rw [h47]
   refine Gx.Wp.jn fun j55 h55 => ?_
   have last : ∀ H, Pw h0 H tb rb sl s F (30 * (i + 1)) → Gx.Wp ((some (⟨xb, 0, none⟩ : Addr)).bind fun p64 => (ldA 6 p64 H).bind fun l65 => (decC [.s, .s, .i .i64, .i .i64, .i .i64, .i .i64] l65).bind fun x66 => (law15_same k (DD k) (some ⟨tb, 0, none⟩) (some ⟨rb, 0, none⟩) (x66.1, x66.2.1, x66.2.2.1, x66.2.2.2.1, x66.2.2.2.2.1, x66.2.2.2.2.2) H).bind fun r67 => j55 c (some ⟨xb, 0, none⟩) (some ⟨tb, 0, none⟩) (some ⟨rb, 0, none⟩) (i : Int) (!r67.1) r67.2) fun z => z.1 = true := fun H W => by
    have gH := W.kp.got hxb gx
    refine .bnd rfl (.bnd (sldA_at gH rfl) (.bnd (decI6 x) (.call (plays_ask hk W (by omega) x) fun r ⟨q1, k1⟩ => ?_)))
    rw [q1, h55]
    exact .ifn (by decide) (next r.2 sl s F (W.keeps k1))
   by_cases c1 : ys = []
   ·exact .ifn (by rw [Rt.len, c1]; simp) (last H W)
   ·have hp : 0 < ys.length := List.length_pos_iff.2 c1
    obtain ⟨y, hy⟩ := isome (l := ys) (i := 0) hp
    obtain ⟨q2, d1, d2, _⟩ := (Rt.keeps W.kp).ld itC_len (by decide) hy
    refine .ifp (by rw [Rt.len]; simp; omega) (.bnd d1 (.bnd d2 (.bnd (decI6 y) (.call (plays_ask hk W (by omega) y) fun r ⟨q1, k1⟩ => ?_))))
    rw [q1]
    exact .ifn (by decide) (last r.2 (W.keeps k1))
  have b3 := amg_lt act.1 (n := 3) (by decide)
  have hxl : (allF F).length = cntTo F 256 := flatTo_len F 256
  have hcn := W.cnt
  have tOwnLt : ∀ y, TOwn tb sl y → y < H.next := fun y hy => (W.T.own hy).2
  refine .bnd b1 (.bnd (lds h38 W38.kp).1 (.bnd (among_spec k (DD k) act.1 (by decide) (by decide) h38) ?_))
  by_cases m0 : amg act.1 3 = 0
  ·-- items are added
   refine .ifp (by simp [m0]) (Gx.Wp.jn fun j79 h79 => ?_)
   have fin : ∀ H sl s F, Pw h0 H tb rb sl s F (30 * (i + 1)) → RowW 6 itC H o ys → Gx.Wp ((law15_sameItems k (DD k) o t H).bind fun r82 => j79 c (some ⟨xb, 0, none⟩) (some ⟨tb, 0, none⟩) (some ⟨rb, 0, none⟩) (i : Int) t (!r82.1) r82.2) fun z => z.1 = true := fun H sl s F W Ro => by
    refine .call (same_spec _ Ro (Rt.keeps W.kp) (by omega) (by omega)) fun r ⟨q1, e1⟩ => ?_
    rw [q1, e1, h79]
    exact .ifn (by simp) (tail H sl s F W)
   by_cases ok : ∀ z ∈ ys, okI z
   ·refine .call (add_spec (by omega) Ro (N := 900) (by omega) (by omega) (fun a ha z => by have := tOwnLt _ z; have := (po a ha).1; omega) nW38 W38.T W.hr (fun j hj => Nat.le_trans (max_cnt W.cnt j hj) (by omega)) ok) fun r1 ⟨q1, sl1, T1, c1, o1⟩ => ?_
    have L1 := W38.L.chg c1 fun y hy q => W.ap y q hy
    have kp1 : Keeps h0 r1.2 := W38.kp.keepsS c1 fun y hy => (W.T.own hy).1
    refine .call (radd_spec (by omega) (DD k) (Rt.keeps kp1) L1 (allF_rises W.hr W.hin) (by omega) (by omega) (fun a ha z => by have := bt a ha; have := (W.L.own z).1; omega)) fun r2 ⟨g2, _⟩ => ?_
    obtain ⟨q2, s2, L2, c2, o2⟩ := g2 ok
    rw [← add_same W.hr W.hin] at L2
    have W2 := W38.both T1 c1 o1 L2 c2 o2 (addL_rises W.hr) (addL_in W.hin) (m := 30 * (i + 1)) (by have := cnt_fill (n := 30) (by omega : ys.length ≤ 30) F (30 * i) W.cnt; omega)
    refine .ifn (by rw [q1, q2]; decide) (fin r2.2 sl1 s2 _ W2 ?_)
    exact (Ro.chg c1 fun a ha z => by have := tOwnLt _ z; have := (po a ha).1; omega).chg c2 fun a ha z => by have := (W.L.own z).2; have := (po a ha).1; omega
   ·have bad : ∃ z ∈ ys, ¬ okI z := by
     obtain ⟨z, hz⟩ := Classical.not_forall.1 ok
     obtain ⟨h1, h2⟩ := Classical.not_imp.1 hz
     exact ⟨z, h1, h2⟩
    refine .call (addBad_spec (tb := tb) Ro (by omega) (by omega) bad) fun r1 ⟨q1, k1⟩ => ?_
    have W1 := W38.keeps k1
    refine .call (radd_spec (by omega) (DD k) (Rt.keeps W1.kp) W1.L (allF_rises W.hr W.hin) (by omega) (by omega) (fun a ha z => by have := bt a ha; have := (W.L.own z).1; omega)) fun r2 ⟨_, g2⟩ => ?_
    obtain ⟨q2, k2⟩ := g2 bad
    exact .ifn (by rw [q1, q2]; decide) (fin r2.2 sl s F ((W1.keeps k2).up (by omega)) (Ro.keeps (k1.trans k2)))
  ·refine .ifn (by simp [m0]) ?_
   by_cases m1 : amg act.1 3 = 1
   ·-- a pack is dropped
    refine .ifp (by simp [m1]) (Gx.Wp.jn fun j91 h91 => ?_)
    have fin : ∀ p : ByteArray, Gx.Wp (j91 c (some ⟨xb, 0, none⟩) (some ⟨tb, 0, none⟩) (some ⟨rb, 0, none⟩) (i : Int) t p h38) fun z => z.1 = true := fun p => by
     rw [h91]
     refine .call (drop_spec (by omega) W38.T (max_cnt W.cnt) (by omega) (by omega) p) fun r1 ⟨q1, sl1, T1, c1, o1⟩ => ?_
     have L1 := W38.L.chg c1 fun y hy q => W.ap y q hy
     refine .call (rdrop_spec (DD k) L1 (by omega) (by omega) p) fun r2 ⟨q2, s2, L2, c2, o2⟩ => ?_
     rw [← drop_count W.hr W.hin] at q2
     rw [← drop_same W.hr W.hin] at L2
     have W2 := W38.both T1 c1 o1 L2 c2 o2 (dropF_rises W.hr p) (dropF_in W.hin p) (m := 30 * (i + 1)) (by have := drop_cnt F p 256; omega)
     exact .ifn (by rw [q1, q2]; simp) (tail r2.2 sl1 s2 _ W2)
    by_cases c1 : ys = []
    ·exact .ifn (by rw [Rt.len, c1]; simp) (fin _)
    ·have hp : 0 < ys.length := List.length_pos_iff.2 c1
     obtain ⟨y, hy⟩ := isome (l := ys) (i := 0) hp
     obtain ⟨q2, d1, _, _, d4⟩ := (Rt.keeps W38.kp).ld itC_len (by decide) hy
     exact .ifp (by rw [Rt.len]; simp; omega) (.bnd d1 (.bnd (show ldS ⟨q2.block, q2.off + 1 + 0, none⟩ h38 = some y.2.1 from d4 1 y.2.1 rfl) (fin _)))
   ·-- a fork
    refine .ifn (by simp [m1]) (.call (fork_spec (by omega) (DD k) W38.T (max_cnt W.cnt) (by omega)) fun r1 ⟨tf, slf, q1, Tf, k1⟩ => Gx.Wp.jn fun j107 h107 => ?_)
    rw [q1]
    have W1 := W38.keeps k1
    have gH := W1.kp.got hxb gx
    refine .ifn (by simp) (.bnd rfl (.bnd (sldA_at gH rfl) (.bnd (decI6 x) (.call (alike_spec hk Tf W1.L W.hr W.hin (fun i hi => Nat.le_trans (max_cnt W.cnt i hi) (by omega)) (by omega) x) fun r2 ⟨q2, k2⟩ => ?_))))
    rw [q2, h107]
    have W2 := W1.keeps k2
    have Tf2 := Tf.keeps k2
    have fOwn : ∀ y, TOwn tf slf y → h38.next ≤ y := fun y hy => (Tf.own hy).1
    have Ro2 := Ro.keeps (k1.trans k2)
    have nk1 := k1.nx
    have nk2 := k2.nx
    refine .ifn (by decide) ?_
    have addf : Gx.Wp (lookup_Table_Add k (DD k) (some ⟨tf, 0, none⟩) o r2.2) fun z => ∃ slg G, Tab h38.next z.2 tf slg G ∧ Keeps h38 z.2 ∧ cntTo G 256 ≤ 930 := by
     by_cases ok : ∀ z ∈ ys, okI z
     ·refine (add_spec (by omega) Ro2 (N := 900) (by omega) (by omega) (fun a ha z => by have := fOwn _ z; have := (po a ha).2; omega) (by omega) Tf2 W.hr (fun j hj => Nat.le_trans (max_cnt W.cnt j hj) (by omega)) ok).mono fun z ⟨_, slg, Tg, cg, og⟩ => ⟨slg, _, Tg, (k1.trans k2).keepsS cg fun y hy => fOwn y hy, ?_⟩
      have := cnt_fill (n := 30) (by omega : ys.length ≤ 30) F (30 * i) W.cnt; omega
     ·have bad : ∃ z ∈ ys, ¬ okI z := by
       obtain ⟨z, hz⟩ := Classical.not_forall.1 ok
       obtain ⟨h1, h2⟩ := Classical.not_imp.1 hz
       exact ⟨z, h1, h2⟩
      exact (addBad_spec (tb := tf) Ro2 (by omega) (by omega) bad).mono fun z ⟨_, kz⟩ => ⟨slf, F, Tf2.keeps kz, (k1.trans k2).trans kz, by omega⟩
    refine .call addf fun r3 ⟨slg, G, Tg, kg, cg⟩ => ?_
    have W3 := W38.keeps kg
    refine .bnd rfl (.bnd W3.L.ld ?_)
    by_cases c1 : allF F = []
    ·exact .ifn (by rw [W3.L.row.len, c1]; simp) (tail r3.2 sl s F (W3.up (by omega)))
    ·have hp : 0 < (allF F).length := List.length_pos_iff.2 c1
     obtain ⟨y, hy⟩ := isome (l := allF F) (i := 0) hp
     obtain ⟨q2, d1, _, _, d4⟩ := W3.L.row.ld itC_len (by decide) hy
     refine .ifp (by rw [W3.L.row.len]; simp; omega) (.bnd rfl (.bnd W3.L.ld (.bnd d1 (.bnd (show ldS ⟨q2.block, q2.off + 1 + 0, none⟩ r3.2 = some y.2.1 from d4 1 y.2.1 rfl) (.call (drop_spec (by omega) Tg (max_cnt cg) (by decide) (by omega) y.2.1) fun r4 ⟨_, sl4, T4, c4, o4⟩ => tail r4.2 sl s F ?_)))))
     exact (W38.keeps (kg.keepsS c4 fun y hy => (Tg.own hy).1)).up (by omega)
end
end Gc
namespace Gc
open Go Gx Go.RowKit Go.Maps
theorem plays_true {k : Nat} (hk : 10000 ≤ k) {h : AHeap} {c : Slc} {l : List (DT.V ActD)} (R : Rep h (.list ActD) l [.slice c.a c.len c.cap]) (x : It) : Tru (law15_LookupPlays k (DD k) c x h) true := by
 refine Tru.wp ?_
 simp only [law15_LookupPlays]
 refine Wp.newE fun h1 e1 k1 n1 g1 => ?_
 have gx : h1.get h.next = some (.cells (itC x) 57 true 0) := g1
 obtain ⟨h2, a2, k2, T2⟩ := new_spec k (DD k) h1
 refine .bnd a2 (Wp.newE fun h3 e3 k3 n3 g3 => ?_)
 have nk2 := k2.nx
 have n3x : h3.next = h2.next + 1 := n3
 have hlt := T2.lt
 have T3 := T2.keeps k3
 have L3 : LT h1.next h3 h2.next ⟨none, 0, 0⟩ (allF e0F) := by
  have : allF e0F = [] := allF_nil fun _ _ => rfl
  rw [this]
  exact ⟨g3, by omega, by omega, AccW.nil _ _ _ _ _, fun a ha => by cases ha⟩
 have W : Pw h1 h3 h1.next h2.next (fun _ => ⟨none, 0, 0⟩) ⟨none, 0, 0⟩ e0F 0 := by
  refine ⟨T3, L3, fun y hy q => ?_, k2.trans k3, e0_rises, e0_in, by rw [cnt_e0]; exact Nat.le_refl _⟩
  rcases hy with rfl | ⟨i, _, a, ha, _⟩
  ·rcases q with e | ⟨a, ha, _⟩
   ·omega
   ·cases ha
  ·cases ha
 refine Gx.Wp.jn fun j10 h10 => .ifn (by simp) (.call (works_spec (by omega) h3) fun r ⟨q1, kr⟩ => ?_)
 rw [q1, h10]
 refine .ifn (by decide) (Gx.Wp.jn fun j12 h12 => ?_)
 unfold law15_LookupPlays_l0
 obtain ⟨bot, eb⟩ := iterK_of (fun _ _ _ _ _ _ => none) (law15_LookupPlays_l0b k (DD k) j12) (show 30 + 1 ≤ k by omega)
 rw [eb]
 have R1 : Rep h1 (.list ActD) l [.slice c.a c.len c.cap] := R.keeps k1
 exact plays_step hk R1 gx (by omega) j12 (fun H => by rw [h12]; exact .of rfl) bot 30 0 r.2 _ _ e0F (by omega) (W.keeps kr)
end Gc
