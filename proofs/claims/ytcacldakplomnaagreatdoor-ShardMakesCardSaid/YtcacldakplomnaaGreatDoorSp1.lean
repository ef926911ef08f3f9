import Derived.Laws.BitsLemmas
import Derived.Test.YtcacldakplomnaaGreatDoorFn2
namespace Gz
open Go Gx Go.Proofs
theorem rot_spec (k0 : Nat) (D : CallF) (x : UInt32) (h : AHeap) {q : Int} (n : Nat) (hn : 0 < n ∧ n < 32) (hq : Go.bits .and .u64 (IntKind.wrap .u64 q) 31 = ((32 - n : Nat) : Int)) : math_bits_RotateLeft32 k0 D (x.toNat : Int) q h = some (((rotr x n).toNat : Int), h) := by
  simp only [math_bits_RotateLeft32, hq]
  rw [if_pos (by omega)]
  have e2 : IntKind.wrap .u64 (32 - ((32 - n : Nat) : Int)) = ((n : Nat) : Int) := by
    rw [show (32 : Int) - ((32 - n : Nat) : Int) = (n : Int) by omega]
    exact wr_u64 _ (by omega) (by omega)
  rw [e2, if_pos (by omega), Int.toNat_natCast, Int.toNat_natCast]
  have m1 : min (32 - n) (IntKind.bits .u32) = 32 - n := Nat.min_eq_left (by show 32 - n ≤ 32; omega)
  have m2 : min n (IntKind.bits .u32) = n := Nat.min_eq_left (by show n ≤ 32; omega)
  rw [m1, m2]
  have p1 : (2 : Int) ^ (32 - n) = ((2 ^ (32 - n) : Nat) : Int) := by simp
  have p2 : (2 : Int) ^ n = ((2 ^ n : Nat) : Int) := by simp
  rw [p1, p2, shlU x (32 - n) (by omega), shrU x n (by omega), orU]
  rfl
theorem sp_l1 (K : Nat) (D : CallF) (j) (bot) {Q : List Value × AHeap → Prop} {h0 : AHeap} {b : Slc} {blk : List UInt8} (R : Row encB h0 b blk) (hl : blk.length = 64) {wb : Nat} (hwb : h0.next ≤ wb) {f : Nat → UInt32} (hf : ∀ i, i < 16 → f i = wAt blk i)
    (hj : ∀ h, Keeps h0 h → h.get wb = some (.cells (filU f 64 16) 159 true 0) → Wp (j (some ⟨wb, 0, none⟩) h) Q) :
    ∀ (d i : Nat) (h : AHeap), i + d = 16 → Keeps h0 h → h.get wb = some (.cells (filU f 64 i) 159 true 0) → Wp (iterK bot (d + 1) (sha_spread_l1b K D j) b (some ⟨wb, 0, none⟩) (i : Int) h) Q
  | 0, i, h, hi, kp, hb => by
    obtain rfl : i = 16 := by omega
    rw [iterK_s]; simp only [sha_spread_l1b]
    exact Wp.ifn (by simp) (hj h kp hb)
  | d + 1, i, h, hi, kp, hb => by
    rw [iterK_s]; simp only [sha_spread_l1b]
    refine Wp.ifp (by simp; omega) ?_
    obtain ⟨x0, g0⟩ := isome (l := blk) (i := 4 * i) (by omega)
    obtain ⟨x1, g1⟩ := isome (l := blk) (i := 4 * i + 1) (by omega)
    obtain ⟨x2, g2⟩ := isome (l := blk) (i := 4 * i + 2) (by omega)
    obtain ⟨x3, g3⟩ := isome (l := blk) (i := 4 * i + 3) (by omega)
    have R' := R.keeps kp
    obtain ⟨q0, a0, c0⟩ := R'.ldB g0
    obtain ⟨q1, a1, c1⟩ := R'.ldB g1
    obtain ⟨q2, a2, c2⟩ := R'.ldB g2
    obtain ⟨q3, a3, c3⟩ := R'.ldB g3
    have e0 : IntKind.wrap .i64 (4 * (i : Int)) = ((4 * i : Nat) : Int) := sw64 (by omega) (by omega)
    have e1 : IntKind.wrap .i64 (((4 * i : Nat) : Int) + 1) = ((4 * i + 1 : Nat) : Int) := sw64 (by omega) (by omega)
    have e2 : IntKind.wrap .i64 (((4 * i : Nat) : Int) + 2) = ((4 * i + 2 : Nat) : Int) := sw64 (by omega) (by omega)
    have e3 : IntKind.wrap .i64 (((4 * i : Nat) : Int) + 3) = ((4 * i + 3 : Nat) : Int) := sw64 (by omega) (by omega)
    rw [e0, e1, e2, e3]
    refine Wp.bnd a0 (Wp.bnd c0 (Wp.bnd a1 (Wp.bnd c1 (Wp.bnd a2 (Wp.bnd c2 (Wp.bnd a3 (Wp.bnd c3 (Wp.bnd rfl (Wp.bnd (sidxA (by omega)) ?_)))))))))
    rw [or_bytes]
    have ev : be32 x0 x1 x2 x3 = f i := by rw [hf i (by omega)]; unfold wAt; rw [g0, g1, g2, g3]; rfl
    rw [ev]
    have hst : st1 ⟨wb, i, none⟩ (.int .u32 ((f i).toNat : Int)) h = some (h.set wb (.cells (filU f 64 (i + 1)) 159 true 0)) := by
      rw [st1_of hb (by rw [filU_length (by omega)]; omega) rfl, filU_set (by omega)]
    refine Wp.bnd hst ?_
    rw [Gx.w1 (by omega)]
    exact sp_l1 K D j bot R hl hwb hf hj d (i + 1) _ (by omega) (kp.set hwb) (sset_get _ _ _)
theorem sp_l0 (K : Nat) (D : CallF) (j) (bot) {Q : List Value × AHeap → Prop} {h0 : AHeap} {wb : Nat} (hwb : h0.next ≤ wb) {m : Nat → UInt32}
    (hj : ∀ h, Keeps h0 h → h.get wb = some (.cells (filU (sched m) 64 64) 159 true 0) → Wp (j (some ⟨wb, 0, none⟩) h) Q) :
    ∀ (d i : Nat) (h : AHeap), i + d = 64 → 16 ≤ i → Keeps h0 h → h.get wb = some (.cells (filU (sched m) 64 i) 159 true 0) → Wp (iterK bot (d + 1) (sha_spread_l0b K D j) (some ⟨wb, 0, none⟩) (i : Int) h) Q
  | 0, i, h, hi, h16, kp, hb => by
    obtain rfl : i = 64 := by omega
    rw [iterK_s]; simp only [sha_spread_l0b]
    exact Wp.ifn (by simp) (hj h kp hb)
  | d + 1, i, h, hi, h16, kp, hb => by
    rw [iterK_s]; simp only [sha_spread_l0b]
    refine Wp.ifp (by simp; omega) ?_
    have e15 : IntKind.wrap .i64 ((i : Int) - 15) = ((i - 15 : Nat) : Int) := sw64 (by omega) (by omega)
    have e2 : IntKind.wrap .i64 ((i : Int) - 2) = ((i - 2 : Nat) : Int) := sw64 (by omega) (by omega)
    have e16 : IntKind.wrap .i64 ((i : Int) - 16) = ((i - 16 : Nat) : Int) := sw64 (by omega) (by omega)
    have e7 : IntKind.wrap .i64 ((i : Int) - 7) = ((i - 7 : Nat) : Int) := sw64 (by omega) (by omega)
    rw [e15, e2, e16, e7]
    have ld : ∀ jj, jj < i → ldI .u32 ⟨wb, jj, none⟩ h = some ((sched m jj).toNat : Int) := fun jj hjj => sldI_at hb (filU_get hjj)
    refine Wp.bnd rfl (Wp.bnd (sidxA (by omega)) (Wp.bnd (ld _ (by omega)) (Wp.bnd rfl (Wp.bnd (sidxA (by omega)) (Wp.bnd (ld _ (by omega)) ?_)))))
    refine Wp.bnd (rot_spec K D _ h 7 (by decide) (by decide)) (Wp.bnd (rot_spec K D _ h 18 (by decide) (by decide)) (Wp.bnd (rot_spec K D _ h 17 (by decide) (by decide)) (Wp.bnd (rot_spec K D _ h 19 (by decide) (by decide)) ?_)))
    refine Wp.bnd rfl (Wp.bnd (sidxA (by omega)) (Wp.bnd (ld _ (by omega)) (Wp.bnd rfl (Wp.bnd (sidxA (by omega)) (Wp.bnd (ld _ (by omega)) (Wp.bnd rfl (Wp.bnd (sidxA (by omega)) ?_)))))))
    have s3 : Int.fdiv ((sched m (i - 15)).toNat : Int) 8 = ((sched m (i - 15) >>> 3).toNat : Int) := shrU _ 3 (by decide)
    have s10 : Int.fdiv ((sched m (i - 2)).toNat : Int) 1024 = ((sched m (i - 2) >>> 10).toNat : Int) := shrU _ 10 (by decide)
    simp only [s3, s10, xorU, addU]
    have ev : sched m (i - 16) + (rotr (sched m (i - 15)) 7 ^^^ rotr (sched m (i - 15)) 18 ^^^ sched m (i - 15) >>> 3) + sched m (i - 7) + (rotr (sched m (i - 2)) 17 ^^^ rotr (sched m (i - 2)) 19 ^^^ sched m (i - 2) >>> 10) = sched m i := (sched_hi h16).symm
    rw [ev]
    have hst : st1 ⟨wb, i, none⟩ (.int .u32 ((sched m i).toNat : Int)) h = some (h.set wb (.cells (filU (sched m) 64 (i + 1)) 159 true 0)) := by
      rw [st1_of hb (by rw [filU_length (by omega)]; omega) rfl, filU_set (by omega)]
    refine Wp.bnd hst ?_
    rw [Gx.w1 (by omega)]
    exact sp_l0 K D j bot hwb hj d (i + 1) _ (by omega) (by omega) (kp.set hwb) (sset_get _ _ _)
theorem spread_spec {k0 : Nat} (hk : 100 ≤ k0) (D : CallF) {h : AHeap} {b : Slc} {blk : List UInt8} (R : Row encB h b blk) (hl : blk.length = 64) :
    Wp (sha_spread k0 D b h) fun r => r.1 = (List.range 64).map (fun i => encU (sched (wAt blk) i)) ∧ Keeps h r.2 := by
  simp only [sha_spread]
  let h1 := h.new (.cells (List.replicate 64 (.int .u32 0)) 159 true 0)
  have k1 : Keeps h h1 := Keeps.new h _
  have g1 : h1.get h.next = some (.cells (filU (sched (wAt blk)) 64 0) 159 true 0) := by rw [filU_zero]; simp [h1]
  refine Wp.jn fun j1 hj1 => ?_
  unfold sha_spread_l1
  obtain ⟨bot1, e1⟩ := iterK_of (fun _ _ _ _ => none) (sha_spread_l1b k0 D j1) (show 16 + 1 ≤ k0 by omega)
  rw [e1]
  refine sp_l1 k0 D j1 bot1 R hl (Nat.le_refl _) (f := sched (wAt blk)) (fun i hi => sched_lo hi) ?_ 16 0 h1 (by omega) k1 g1
  intro h2 k2 g2
  subst hj1
  refine Wp.jn fun j2 hj2 => ?_
  unfold sha_spread_l0
  obtain ⟨bot2, e2⟩ := iterK_of (fun _ _ _ => none) (sha_spread_l0b k0 D j2) (show 48 + 1 ≤ k0 by omega)
  rw [e2]
  refine sp_l0 k0 D j2 bot2 (Nat.le_refl _) ?_ 48 16 h2 (by omega) (by omega) k2 g2
  intro h3 k3 g3
  subst hj2
  rw [filU_all] at g3
  obtain ⟨L, hL⟩ : ∃ L, L = (List.range 64).map fun i => encU (sched (wAt blk) i) := ⟨_, rfl⟩
  rw [← hL] at g3 ⊢
  have hlen : L.length = 64 := by rw [hL]; simp
  have l3 := sldA_at (sp := none) g3 hlen
  have s3 := sstL_at (sp := none) g3 hlen hlen (by rw [hL]; exact allOne_U _ _) (by decide)
  have l4 := sldA_at (sp := none) (sset_get h3 h.next (.cells L 159 true 0)) hlen
  have hd : decA 64 (.agg ⟨L⟩) = some L := by
    show (bif Nat.beq L.length 64 then some L else none) = some L
    rw [hlen]; rfl
  exact Wp.bnd rfl (Wp.bnd l3 (Wp.bnd rfl (Wp.bnd s3 (Wp.bnd rfl (Wp.bnd l4 (Wp.bnd hd (Wp.of ⟨rfl, k3.set (Nat.le_refl _)⟩)))))))
end Gz
namespace Gz
open Go Gx Go.Proofs
structure HS (h : AHeap) (hb : Nat) (s : St) (r : Slc) (long : Int) : Prop where
  blk : h.get hb = some (.cells (hcells (wl s) r long) 119 true 0)
  lt : hb < h.next
theorem HS.chg {S : Nat → Prop} {h h' : AHeap} {hb : Nat} {s : St} {r : Slc} {long : Int} (H : HS h hb s r long) (c : Chg S h h') (hs : ¬ S hb) : HS h' hb s r long := ⟨(c.oth hb H.lt hs).trans H.blk, Nat.lt_of_lt_of_le H.lt c.nx⟩
theorem HS.keeps {h h' : AHeap} {hb : Nat} {s : St} {r : Slc} {long : Int} (H : HS h hb s r long) (c : Keeps h h') : HS h' hb s r long := H.chg c fun f => f
theorem tk_l1 (K : Nat) (D : CallF) (j) (bot) {Q : Unit × AHeap → Prop} {h0 : AHeap} (kg : KG 0 h0) {wb : Nat} {m : Nat → UInt32} (hw : h0.get wb = some (.cells ((List.range 64).map fun i => encU (m i)) 159 true 0)) (hv : Option Addr) (s : St)
    (hj : ∀ t : St, t = rounds kAt m 64 s → Wp (j hv (t.a.toNat : Int) (t.b.toNat : Int) (t.c.toNat : Int) (t.d.toNat : Int) (t.e.toNat : Int) (t.f.toNat : Int) (t.g.toNat : Int) (t.h.toNat : Int) h0) Q) :
    ∀ (d i : Nat) (t : St), i + d = 64 → t = rounds kAt m i s →
      Wp (iterK bot (d + 1) (sha_Hash_take_l1b K D j) hv (some ⟨wb, 0, none⟩) (t.a.toNat : Int) (t.b.toNat : Int) (t.c.toNat : Int) (t.d.toNat : Int) (t.e.toNat : Int) (t.f.toNat : Int) (t.g.toNat : Int) (t.h.toNat : Int) (i : Int) h0) Q
  | 0, i, t, hi, ht => by
    obtain rfl : i = 64 := by omega
    rw [iterK_s]; simp only [sha_Hash_take_l1b]
    exact Wp.ifn (by simp) (hj t ht)
  | d + 1, i, t, hi, ht => by
    rw [iterK_s]; simp only [sha_Hash_take_l1b]
    refine Wp.ifp (by simp; omega) ?_
    refine Wp.bnd (rot_spec K D _ h0 6 (by decide) (by decide)) (Wp.bnd (rot_spec K D _ h0 11 (by decide) (by decide)) (Wp.bnd (rot_spec K D _ h0 25 (by decide) (by decide)) ?_))
    have lw : ldI .u32 ⟨wb, i, none⟩ h0 = some ((m i).toNat : Int) := sldI_at hw (by rw [List.getElem?_map, List.getElem?_range (by omega)]; rfl)
    refine Wp.bnd (sidxA (by omega)) (Wp.bnd (kg.ld (by omega)) (Wp.bnd rfl (Wp.bnd (sidxA (by omega)) (Wp.bnd lw ?_))))
    refine Wp.bnd (rot_spec K D _ h0 2 (by decide) (by decide)) (Wp.bnd (rot_spec K D _ h0 13 (by decide) (by decide)) (Wp.bnd (rot_spec K D _ h0 22 (by decide) (by decide)) ?_))
    simp only [xorU, andU, notU, addU]
    rw [Gx.w1 (by omega)]
    exact tk_l1 K D j bot kg hw hv s hj d (i + 1) (rnd (kAt i) (m i) t) (by omega) (by rw [ht]; rfl)
theorem tk_l0 (K : Nat) (D : CallF) (bot) {h0 : AHeap} {hb : Nat} {s t : St} {r : Slc} {long : Int} (hlt : hb < h0.next) :
    ∀ (d i : Nat) (h : AHeap) (l : List UInt32), i + d = 8 → l.length = 8 → (∀ j x y, j < i → (wl s)[j]? = some x → (wl t)[j]? = some y → l[j]? = some (x + y)) → (∀ j, i ≤ j → l[j]? = (wl s)[j]?) → h.get hb = some (.cells (hcells l r long) 119 true 0) → Chg (fun x => x = hb) h0 h →
      Wp (iterK bot (d + 1) (sha_Hash_take_l0b K D) (some ⟨hb, 0, none⟩) ((t.a.toNat : Int), (t.b.toNat : Int), (t.c.toNat : Int), (t.d.toNat : Int), (t.e.toNat : Int), (t.f.toNat : Int), (t.g.toNat : Int), (t.h.toNat : Int)) (i : Int) h) fun q => HS q.2 hb (addSt s t) r long ∧ Chg (fun x => x = hb) h0 q.2
  | 0, i, h, l, hi, hl, l1, l2, hg, c => by
    obtain rfl : i = 8 := by omega
    rw [iterK_s]; simp only [sha_Hash_take_l0b]
    refine Wp.ifn (by simp) (Wp.of ⟨⟨?_, Nat.lt_of_lt_of_le hlt c.nx⟩, c⟩)
    have e : l = wl (addSt s t) := by
      apply List.ext_getElem?
      intro j
      by_cases hj : j < 8
      · obtain ⟨x, hx⟩ := isome (l := wl s) (i := j) hj
        obtain ⟨y, hy⟩ := isome (l := wl t) (i := j) hj
        rw [l1 j x y hj hx hy]
        match j, hj with
        | 0, _ => cases hx; cases hy; rfl
        | 1, _ => cases hx; cases hy; rfl
        | 2, _ => cases hx; cases hy; rfl
        | 3, _ => cases hx; cases hy; rfl
        | 4, _ => cases hx; cases hy; rfl
        | 5, _ => cases hx; cases hy; rfl
        | 6, _ => cases hx; cases hy; rfl
        | 7, _ => cases hx; cases hy; rfl
        | n + 8, h => omega
      · rw [List.getElem?_eq_none (by omega), List.getElem?_eq_none (by rw [wl_length]; omega)]
    rw [e] at hg
    exact hg
  | d + 1, i, h, l, hi, hl, l1, l2, hg, c => by
    rw [iterK_s]; simp only [sha_Hash_take_l0b]
    refine Wp.ifp (by simp; omega) ?_
    refine Wp.ifp (by omega) ?_
    obtain ⟨x, hx⟩ := isome (l := wl s) (i := i) (by rw [wl_length]; omega)
    obtain ⟨y, hy⟩ := isome (l := wl t) (i := i) (by rw [wl_length]; omega)
    have hly : ((wl t).map encU)[((i : Int)).toNat * 1]? = some (.int .u32 (y.toNat : Int)) := by
      rw [Int.toNat_natCast, Nat.mul_one, List.getElem?_map, hy]; rfl
    refine Wp.bnd hly (Wp.bnd rfl (Wp.bnd rfl ?_))
    have hlx : l[i]? = some x := by rw [l2 i (Nat.le_refl _), hx]
    refine Wp.bnd (sidxA (by omega)) (Wp.bnd (sldI_at hg (hcells_word hlx)) (Wp.bnd rfl (Wp.bnd (sidxA (by omega)) ?_)))
    rw [addU]
    have hst : st1 ⟨hb, i, none⟩ (.int .u32 ((x + y).toNat : Int)) h = some (h.set hb (.cells (hcells (l.set i (x + y)) r long) 119 true 0)) := by
      rw [st1_of hg (by rw [hcells_length hl]; omega) rfl, hcells_set _ (by omega)]
    refine Wp.bnd hst ?_
    rw [Gx.w1 (by omega)]
    refine tk_l0 K D bot hlt d (i + 1) _ (l.set i (x + y)) (by omega) (by simpa using hl) (fun j x' y' hj hx' hy' => ?_) (fun j hj => ?_) (sset_get _ _ _) (c.trans (Chg.set (.inr rfl)))
    · by_cases e : j = i
      · subst e
        rw [hx] at hx'; rw [hy] at hy'
        cases hx'; cases hy'
        rw [List.getElem?_set_self (by omega)]
      · rw [List.getElem?_set_ne (fun q => e q.symm)]
        exact l1 j x' y' (by omega) hx' hy'
    · rw [List.getElem?_set_ne (by omega)]
      exact l2 j (by omega)
theorem take_spec {k0 : Nat} (hk : 100 ≤ k0) (D : CallF) {h : AHeap} {hb : Nat} {s : St} {r : Slc} {long : Int} (H : HS h hb s r long) (kg : KG 0 h) {b : Slc} {blk : List UInt8} (R : Row encB h b blk) (hl : blk.length = 64) :
    Wp (sha_Hash_take k0 D (some ⟨hb, 0, none⟩) b h) fun q => HS q.2 hb (comp s blk) r long ∧ Chg (fun x => x = hb) h q.2 := by
  simp only [sha_Hash_take]
  refine Wp.call (spread_spec hk D R hl) fun a ⟨ha, ka⟩ => ?_
  obtain ⟨L, h1⟩ := a
  simp only at ha ka ⊢
  subst ha
  let h2 := h1.new (.cells (List.replicate 64 (.int .u32 0)) 159 true 0)
  have g2 : h2.get h1.next = some (.cells (List.replicate 64 (.int .u32 0)) 159 true 0) := by simp [h2]
  have s3 := sstL_at (sp := none) g2 (by simp) (show ((List.range 64).map fun i => encU (sched (wAt blk) i)).length = 64 by simp) (allOne_U _ _) (by decide)
  refine Wp.bnd s3 ?_
  obtain ⟨h3, e3⟩ : ∃ h3, h3 = h2.set h1.next (.cells ((List.range 64).map fun i => encU (sched (wAt blk) i)) 159 true 0) := ⟨_, rfl⟩
  rw [← e3]
  have k3 : Keeps h h3 := by
    rw [e3]
    exact Keeps.set (ka.trans (Keeps.new h1 _)) ka.nx
  have g3 : h3.get h1.next = some (.cells ((List.range 64).map fun i => encU (sched (wAt blk) i)) 159 true 0) := by rw [e3]; exact sset_get _ _ _
  have H3 := H.keeps k3
  have ld : ∀ {i : Nat} {x : UInt32}, (wl s)[i]? = some x → ldI .u32 ⟨hb, i, none⟩ h3 = some (x.toNat : Int) := fun hx => sldI_at H3.blk (hcells_word hx)
  refine Wp.bnd rfl (Wp.bnd (ld (i := 0) rfl) (Wp.bnd rfl (Wp.bnd (ld (i := 1) rfl) (Wp.bnd rfl (Wp.bnd (ld (i := 2) rfl) (Wp.bnd rfl (Wp.bnd (ld (i := 3) rfl) (Wp.bnd rfl (Wp.bnd (ld (i := 4) rfl) (Wp.bnd rfl (Wp.bnd (ld (i := 5) rfl) (Wp.bnd rfl (Wp.bnd (ld (i := 6) rfl) (Wp.bnd rfl (Wp.bnd (ld (i := 7) rfl) ?_)))))))))))))))
  refine Wp.jn fun j1 hj1 => ?_
  unfold sha_Hash_take_l1
  obtain ⟨bot1, e1⟩ := iterK_of (fun _ _ _ _ _ _ _ _ _ _ _ _ => none) (sha_Hash_take_l1b k0 D j1) (show 64 + 1 ≤ k0 by omega)
  rw [e1]
  refine tk_l1 k0 D j1 bot1 (kg.chg k3 fun f => f) g3 (some ⟨hb, 0, none⟩) s ?_ 64 0 s (by omega) rfl
  intro t ht
  subst hj1
  dsimp only
  unfold sha_Hash_take_l0
  obtain ⟨bot2, e2⟩ := iterK_of (fun _ _ _ _ => none) (sha_Hash_take_l0b k0 D) (show 8 + 1 ≤ k0 by omega)
  rw [e2]
  refine (tk_l0 k0 D bot2 (h0 := h3) (s := s) (t := t) (r := r) (long := long) H3.lt 8 0 h3 (wl s) (by omega) rfl (fun j x y hj => by omega) (fun j _ => rfl) H3.blk (Chg.refl _ _)).mono ?_
  rintro q ⟨q1, q2⟩
  refine ⟨?_, (k3.keeps).trans q2⟩
  unfold comp
  rw [← ht]; exact q1
end Gz
namespace Gz
open Go Gx Go.Proofs
structure Hash (n0 : Nat) (h : AHeap) (hb : Nat) (s : St) (rest : List UInt8) (long : Nat) : Prop where
  ok : ∃ r, HS h hb s r (long : Int) ∧ Acc encB 5 n0 h r rest ∧ ∀ a, r.a = some a → a.block ≠ hb
  le : n0 ≤ hb
theorem Hash.keeps {n0 : Nat} {h h' : AHeap} {hb : Nat} {s : St} {rest : List UInt8} {long : Nat} (H : Hash n0 h hb s rest long) (c : Keeps h h') : Hash n0 h' hb s rest long := by
  obtain ⟨r, h1, h2, h3⟩ := H.ok
  exact ⟨⟨r, h1.keeps c, h2.keeps c, h3⟩, H.le⟩
theorem Hash.lt {n0 : Nat} {h : AHeap} {hb : Nat} {s : St} {rest : List UInt8} {long : Nat} (H : Hash n0 h hb s rest long) : hb < h.next := by
  obtain ⟨r, h1, _⟩ := H.ok
  exact h1.lt
theorem hcells_rest {l : List UInt32} {r : Slc} {long : Int} (h : l.length = 8) : (hcells l r long)[8]? = some (.slice r.a r.len r.cap) := by
  unfold hcells
  rw [List.getElem?_append_right (by simp [h]), List.length_map, h]; rfl
theorem hcells_long {l : List UInt32} {r : Slc} {long : Int} (h : l.length = 8) : (hcells l r long)[9]? = some (.int .i64 long) := by
  unfold hcells
  rw [List.getElem?_append_right (by simp [h]), List.length_map, h]; rfl
theorem hcells_setR {l : List UInt32} {r r' : Slc} {long : Int} (h : l.length = 8) : (hcells l r long).set 8 (.slice r'.a r'.len r'.cap) = hcells l r' long := by
  unfold hcells
  rw [List.set_append_right _ _ (by simp [h]), List.length_map, h]; rfl
theorem hcells_setL {l : List UInt32} {r : Slc} {long long' : Int} (h : l.length = 8) : (hcells l r long).set 9 (.int .i64 long') = hcells l r long' := by
  unfold hcells
  rw [List.set_append_right _ _ (by simp [h]), List.length_map, h]; rfl
theorem HS.setR {h : AHeap} {hb : Nat} {s : St} {r : Slc} {long : Int} (H : HS h hb s r long) (r' : Slc) : st1 ⟨hb, 8, none⟩ (.slice r'.a r'.len r'.cap) h = some (h.set hb (.cells (hcells (wl s) r' long) 119 true 0)) ∧ HS (h.set hb (.cells (hcells (wl s) r' long) 119 true 0)) hb s r' long := by
  refine ⟨?_, sset_get _ _ _, by simpa using H.lt⟩
  rw [st1_of H.blk (by rw [hcells_length (wl_length s)]; decide) rfl, hcells_setR (wl_length s)]
theorem HS.setL {h : AHeap} {hb : Nat} {s : St} {r : Slc} {long : Int} (H : HS h hb s r long) (long' : Int) : st1 ⟨hb, 9, none⟩ (.int .i64 long') h = some (h.set hb (.cells (hcells (wl s) r long') 119 true 0)) ∧ HS (h.set hb (.cells (hcells (wl s) r long') 119 true 0)) hb s r long' := by
  refine ⟨?_, sset_get _ _ _, by simpa using H.lt⟩
  rw [st1_of H.blk (by rw [hcells_length (wl_length s)]; decide) rfl, hcells_setL (wl_length s)]
theorem acc_sub {n0 : Nat} {h : AHeap} {r : Slc} {l : List UInt8} (A : Acc encB 5 n0 h r l) {i j : Nat} (hij : i ≤ j) (hj : j ≤ l.length) (hi : Option Int) (hhi : hi = some (j : Int) ∨ (hi = none ∧ j = l.length)) :
    ∃ t, Gx.subL 1 r (some (i : Int)) hi none = some t ∧ Row encB h t ((l.take j).drop i) ∧ t.len = j - i := by
  have hlen := A.row.1
  rcases A.st with ⟨rfl, rfl⟩ | ⟨b, g⟩
  · simp at hj
    subst hj
    obtain rfl : i = 0 := by omega
    refine ⟨⟨none, 0, 0⟩, ?_, Row.nil _ _ _ _, rfl⟩
    rcases hhi with rfl | ⟨rfl, _⟩ <;> rfl
  · have hg := g.s
    subst hg
    have hb := A.lt ⟨b, 0, some 2⟩ rfl
    have hhv : hi.getD ((l.length : Nat) : Int) = (j : Int) := by
      rcases hhi with rfl | ⟨rfl, e⟩
      · rfl
      · rw [e]; rfl
    refine ⟨⟨some ⟨b, if (l.length : Int) = (i : Int) then 0 else i, some 2⟩, j - i, l.length - i⟩, ?_, ⟨?_, fun k x hx => ?_⟩, rfl⟩
    · simp only [Gx.subL, Option.getD_none, Option.getD_some, hhv]
      rw [if_pos (by omega), if_pos (by rfl)]
      rw [show ((j : Int) - (i : Int)).toNat = j - i by omega, show ((l.length : Int) - (i : Int)).toNat = l.length - i by omega]
      simp
    · rw [List.length_drop, List.length_take]; show j - i = min j l.length - i; omega
    · rw [List.getElem?_drop, List.getElem?_take] at hx
      split at hx
      · have hlt := (List.getElem?_eq_some_iff.1 hx).1
        refine ⟨_, _, _, _, _, rfl, hb.1, g.blk, ?_⟩
        simp only
        rw [if_neg (by omega), List.getElem?_map, hx]; rfl
      · cases hx
theorem wr_l0 {k0 : Nat} (hk : 100 ≤ k0) (D : CallF) (j) (bot) {Q : Unit × AHeap → Prop} {n0 hb : Nat} (hn : 0 < n0) (hle : n0 ≤ hb) {long : Int} {r : Slc} {l : List UInt8} (hl : l.length ≤ 1000000000) (hr : ∀ a, r.a = some a → a.block ≠ hb) {s0 : St}
    {h0 : AHeap} (hj : ∀ h i, Chg (fun x => n0 ≤ x) h0 h → KG 0 h → HS h hb (absorb s0 l) r long → Acc encB 5 n0 h r l → i = 64 * (l.length / 64) → Wp (j (some ⟨hb, 0, none⟩) (i : Int) h) Q) :
    ∀ (d : Nat) (i : Nat) (s : St) (h : AHeap), l.length - i < 64 * (d + 1) → i ≤ l.length → i % 64 = 0 → absorb s (l.drop i) = absorb s0 l → Chg (fun x => n0 ≤ x) h0 h → KG 0 h → HS h hb s r long → Acc encB 5 n0 h r l →
      Wp (iterK bot (d + 1) (sha_Hash_Write_l0b k0 D j) (some ⟨hb, 0, none⟩) (i : Int) h) Q
  | d, i, s, h, hd, hi, h6, ha, c, kg, H, A => by
    rw [iterK_s]; simp only [sha_Hash_Write_l0b]
    refine Wp.bnd rfl (Wp.bnd (sldL_at H.blk (hcells_rest (wl_length s))) ?_)
    have hlen : r.len = l.length := A.row.1
    simp only
    rw [hlen, w64 _ (by omega)]
    by_cases c1 : 64 ≤ l.length - i
    · refine Wp.ifp (by simp; omega) ?_
      obtain ⟨d', rfl⟩ : ∃ d', d = d' + 1 := ⟨d - 1, by omega⟩
      refine Wp.bnd rfl (Wp.bnd (sldL_at H.blk (hcells_rest (wl_length s))) ?_)
      have e64 : IntKind.wrap .i64 ((i : Int) + 64) = ((i + 64 : Nat) : Int) := sw64 (by omega) (by omega)
      rw [e64]
      obtain ⟨t, e1, R, tl⟩ := acc_sub A (i := i) (j := i + 64) (by omega) (by omega) (some ((i + 64 : Nat) : Int)) (.inl rfl)
      have e1' : Gx.subL 1 ⟨r.a, l.length, r.cap⟩ (some (i : Int)) (some ((i + 64 : Nat) : Int)) none = some t := by
        rw [← hlen]; exact e1
      refine Wp.bnd e1' ?_
      have hblk : ((l.take (i + 64)).drop i).length = 64 := by rw [List.length_drop, List.length_take]; omega
      refine Wp.call (take_spec hk D H kg R hblk) fun q ⟨q1, q2⟩ => ?_
      have q2' : Chg (fun x => n0 ≤ x) h q.2 := q2.wk fun x _ e => by have e : x = hb := e; show n0 ≤ x; omega
      refine wr_l0 hk D j bot hn hle hl hr hj d' (i + 64) _ q.2 (by omega) (by omega) (by omega) ?_ (c.trans q2') (kg.chg q2 (by omega)) q1 (A.chg q2 fun a ha e => hr a ha e)
      rw [← ha, absorb_ge (l := l.drop i) (by rw [List.length_drop]; exact c1), List.drop_drop]
      congr 2
      rw [List.drop_take, show i + 64 - i = 64 by omega]
    · refine Wp.ifn (by simp; omega) ?_
      have hd2 : absorb s (l.drop i) = s := absorb_lt (by rw [List.length_drop]; omega)
      rw [hd2] at ha
      subst ha
      exact hj h i c kg H A (by omega)
theorem write_spec {k0 : Nat} (hk : 100 ≤ k0) (D : CallF) {n0 : Nat} {h : AHeap} {hb : Nat} {s : St} {rest : List UInt8} {long : Nat} (H : Hash n0 h hb s rest long) (kg : KG 0 h) (hn : 0 < n0) (t : ByteArray) (hlong : long + t.size ≤ 100000000) (hrest : rest.length ≤ 100000000) (hkt : rest.length + t.size < 64 * k0) :
    Wp (sha_Hash_Write k0 D (some ⟨hb, 0, none⟩) t h) fun q => Hash n0 q.2 hb (absorb s (rest ++ bl t)) (restOf (rest ++ bl t)) (long + t.size) ∧ Chg (fun x => n0 ≤ x) h q.2 := by
  obtain ⟨⟨r, HS0, A0, hr⟩, hle⟩ := H
  simp only [sha_Hash_Write]
  have e1 : IntKind.wrap .i64 ((long : Int) + (t.size : Int)) = ((long + t.size : Nat) : Int) := sw64 (by omega) (by omega)
  obtain ⟨s1, H1⟩ := HS0.setL ((long + t.size : Nat) : Int)
  refine Wp.bnd rfl (Wp.bnd (sldI_at HS0.blk (hcells_long (wl_length s))) (Wp.bnd rfl (Wp.bnd (by rw [e1]; exact s1) ?_)))
  obtain ⟨h1, eh1⟩ : ∃ h1, h1 = h.set hb (.cells (hcells (wl s) r ((long + t.size : Nat) : Int)) 119 true 0) := ⟨_, rfl⟩
  rw [← eh1] at H1 ⊢
  have c1 : Chg (fun x => x = hb) h h1 := by rw [eh1]; exact Chg.set (.inr rfl)
  have A1 := A0.chg c1 fun a ha e => hr a ha e
  have n1 : n0 ≤ h1.next := Nat.le_trans hle (Nat.le_of_lt H1.lt)
  obtain ⟨r2, h2, e2, A2, c2, f2⟩ := A1.app (bytes := 1) (fun _ => rfl) (bl t) (by rw [bl_length]; omega) (by omega) n1
  rw [bl_length] at e2
  refine Wp.bnd rfl (Wp.bnd (sldL_at H1.blk (hcells_rest (wl_length s))) ?_)
  rw [bytesL_bl]
  refine Wp.bnd e2 ?_
  have H2 : HS h2 hb s r ((long + t.size : Nat) : Int) := H1.chg c2 fun ⟨a, ha, e⟩ => hr a ha e.symm
  have hr2 : ∀ a, r2.a = some a → a.block ≠ hb := fun a ha e => by
    rcases f2 a ha with f | f
    · have := H1.lt; omega
    · exact hr a f e
  obtain ⟨s3, H3⟩ := H2.setR r2
  refine Wp.bnd rfl (Wp.bnd s3 ?_)
  obtain ⟨h3, eh3⟩ : ∃ h3, h3 = h2.set hb (.cells (hcells (wl s) r2 ((long + t.size : Nat) : Int)) 119 true 0) := ⟨_, rfl⟩
  rw [← eh3] at H3 ⊢
  have c3 : Chg (fun x => x = hb) h2 h3 := by rw [eh3]; exact Chg.set (.inr rfl)
  have A3 := A2.chg c3 fun a ha e => hr2 a ha e
  have w1' : Chg (fun x => n0 ≤ x) h h1 := c1.wk fun x _ e => by have e : x = hb := e; show n0 ≤ x; omega
  have w2 : Chg (fun x => n0 ≤ x) h1 h2 := c2.wk fun x _ ⟨a, ha, e⟩ => by have := (A1.lt a ha).2; show n0 ≤ x; omega
  have w3 : Chg (fun x => n0 ≤ x) h2 h3 := c3.wk fun x _ e => by have e : x = hb := e; show n0 ≤ x; omega
  have W3 := w1'.trans (w2.trans w3)
  refine Wp.jn fun j1 hj1 => ?_
  unfold sha_Hash_Write_l0
  obtain ⟨d, hd⟩ : ∃ d, d = (rest ++ bl t).length / 64 := ⟨_, rfl⟩
  have hll : (rest ++ bl t).length = rest.length + t.size := by rw [List.length_append, bl_length]
  obtain ⟨bot1, eb⟩ := iterK_of (fun _ _ _ => none) (sha_Hash_Write_l0b k0 D j1) (show d + 1 ≤ k0 by omega)
  rw [eb]
  refine wr_l0 hk D j1 bot1 hn hle (s0 := s) (h0 := h3) (l := rest ++ bl t) (by omega) hr2 ?_ d 0 s h3 (by omega) (by omega) rfl rfl (Chg.refl _ _) (kg.chg W3 (by omega)) H3 A3
  intro h4 i c4 kg4 H4 A4 hi
  subst hj1
  obtain ⟨u, u1, u2, u3⟩ := acc_sub A4 (i := i) (j := (rest ++ bl t).length) (by omega) (Nat.le_refl _) none (.inr ⟨rfl, rfl⟩)
  have hlen : r2.len = (rest ++ bl t).length := A4.row.1
  refine Wp.bnd rfl (Wp.bnd (sldL_at H4.blk (hcells_rest (wl_length _))) (Wp.bnd u1 (Wp.bnd u2.rdS ?_)))
  have n4 : n0 ≤ h4.next := Nat.le_trans hle (Nat.le_of_lt H4.lt)
  have er : ((rest ++ bl t).take (rest ++ bl t).length).drop i = restOf (rest ++ bl t) := by rw [List.take_length, hi]; rfl
  rw [er]
  obtain ⟨r5, h5, e5, A5, c5, f5⟩ := (Acc.nil encB 5 n0 h4).app (bytes := 1) (fun _ => rfl) (restOf (rest ++ bl t)) (by rw [restOf_length]; simp; omega) (by omega) n4
  have ul : u.len = (restOf (rest ++ bl t)).length := by rw [u3, ← er, List.length_drop, List.take_length]
  rw [← ul] at e5
  refine Wp.bnd e5 ?_
  have k5 : Keeps h4 h5 := c5.wk fun x _ ⟨a, ha, _⟩ => by cases ha
  have H5 := H4.keeps k5
  obtain ⟨s6, H6⟩ := H5.setR r5
  have hr5 : ∀ a, r5.a = some a → a.block ≠ hb := fun a ha e => by
    rcases f5 a ha with f | f
    · have := H4.lt; omega
    · cases f
  refine Wp.bnd rfl (Wp.bnd s6 (Wp.of ⟨⟨⟨r5, H6, ?_, hr5⟩, hle⟩, ?_⟩))
  · exact (A5.chg (Chg.set (S := fun x => x = hb) (.inr rfl)) fun a ha e => hr5 a ha e)
  · refine W3.trans (c4.trans ((k5.keeps).trans (Chg.set (.inr hle))))
end Gz
namespace Gz
open Go Gx Go.Proofs
theorem hnew_spec (k0 : Nat) (D : CallF) (h : AHeap) : ∃ h' hb, sha_New k0 D h = some (some ⟨hb, 0, none⟩, h') ∧ Keeps h h' ∧ h.next ≤ hb ∧ Hash h.next h' hb st0 [] 0 := by
  have first : sha_first k0 D h = some (((st0.a.toNat : Int), (st0.b.toNat : Int), (st0.c.toNat : Int), (st0.d.toNat : Int), (st0.e.toNat : Int), (st0.f.toNat : Int), (st0.g.toNat : Int), (st0.h.toNat : Int)), (h.new (.cells [.int .u32 0, .int .u32 0, .int .u32 0, .int .u32 0, .int .u32 0, .int .u32 0, .int .u32 0, .int .u32 0] 104 true 0)).set h.next (.cells ((wl st0).map encU) 104 true 0)) := by
    simp only [sha_first]
    have g1 : (h.new (.cells [.int .u32 0, .int .u32 0, .int .u32 0, .int .u32 0, .int .u32 0, .int .u32 0, .int .u32 0, .int .u32 0] 104 true 0)).get h.next = some (.cells [.int .u32 0, .int .u32 0, .int .u32 0, .int .u32 0, .int .u32 0, .int .u32 0, .int .u32 0, .int .u32 0] 104 true 0) := by simp
    have s1 := sstL_at (sp := none) g1 rfl (show ((wl st0).map encU).length = 8 from rfl) rfl (by decide)
    refine bnd s1 (bnd (sldA_at (sset_get _ _ _) rfl) (bnd rfl rfl))
  simp only [sha_New]
  let h1 := (h.new (.cells [.int .u32 0, .int .u32 0, .int .u32 0, .int .u32 0, .int .u32 0, .int .u32 0, .int .u32 0, .int .u32 0] 104 true 0)).set h.next (.cells ((wl st0).map encU) 104 true 0)
  have k1 : Keeps h h1 := Keeps.set (Keeps.new h _) (Nat.le_refl _)
  have n1 : h1.next = h.next + 1 := by simp [h1]
  refine ⟨h1.new (.cells (hcells (wl st0) ⟨none, 0, 0⟩ 0) 119 true 0), h1.next, bnd first rfl, k1.trans (Keeps.new _ _), by omega, ⟨⟨⟨none, 0, 0⟩, ⟨by simp, by simp⟩, Acc.nil _ _ _ _, fun a ha => by cases ha⟩, by omega⟩⟩
theorem fork_spec (k0 : Nat) (D : CallF) {n0 : Nat} {h : AHeap} {hb : Nat} {s : St} {rest : List UInt8} {long : Nat} (H : Hash n0 h hb s rest long) (hr : rest.length ≤ 100000000) :
    ∃ h' eb, sha_Hash_Fork k0 D (some ⟨hb, 0, none⟩) h = some (some ⟨eb, 0, none⟩, h') ∧ Keeps h h' ∧ Hash h.next h' eb s rest long ∧ Hash n0 h' hb s rest long := by
  have H0 := H
  obtain ⟨⟨r, HS0, A0, hne⟩, hle⟩ := H
  simp only [sha_Hash_Fork]
  obtain ⟨r3, h3, e3, A3, c3, f3⟩ := (Acc.nil encB 5 h.next h).app (bytes := 1) (fun _ => rfl) rest (by simp; omega) (by omega) (Nat.le_refl _)
  have hlen : r.len = rest.length := A0.row.1
  rw [← hlen] at e3
  have k3 : Keeps h h3 := c3.wk fun x _ ⟨a, ha, _⟩ => by cases ha
  have H3 := HS0.keeps k3
  have tk : (hcells (wl s) r (long : Int)).take 8 = (wl s).map encU := rfl
  have ldw : ∀ {g : AHeap}, HS g hb s r (long : Int) → ldA 8 ⟨hb, 0, none⟩ g = some ((wl s).map encU) := fun {g} Hg => by
    have := sldA_take (sp := none) Hg.blk (show 0 < 8 by decide) (by rw [hcells_length (wl_length s)]; decide)
    rw [tk] at this; exact this
  have ldl : ∀ {g : AHeap}, HS g hb s r (long : Int) → ldI .i64 ⟨hb, 9, none⟩ g = some (long : Int) := fun {g} Hg => sldI_at Hg.blk (hcells_long (wl_length s))
  refine ⟨h3.new (.cells (hcells (wl s) r3 (long : Int)) 119 true 0), h3.next, ?_, k3.trans (Keeps.new _ _), ⟨⟨r3, ⟨by simp, by simp⟩, A3.keeps (Keeps.new _ _), fun a ha => ?_⟩, k3.nx⟩, H0.keeps (k3.trans (Keeps.new _ _))⟩
  · refine bnd rfl (bnd (sldL_at HS0.blk (hcells_rest (wl_length s))) (bnd A0.row.rdS (bnd e3 (bnd rfl (bnd (ldw H3) ?_)))))
    refine gp (ssw1 ?_) (bnd rfl (bnd rfl (bnd (ldl H3) (gp (ssw1 ?_) rfl))))
    · show (ldA 8 ⟨hb, 0, none⟩ h).bind _ = _
      rw [ldw HS0]; rfl
    · show (ldI .i64 ⟨hb, 9, none⟩ h).bind _ = _
      rw [ldl HS0]; rfl
  · have := (A3.lt a ha).1
    omega
theorem sm_l2 {k0 : Nat} (D : CallF) (j) (bot) {Q : ByteArray × AHeap → Prop} {n0 eb hb : Nat} {s : St} {rest : List UInt8} {long : Nat} (hrl : rest.length < 64) {h0 : AHeap}
    (hj : ∀ h t, Keeps h0 h → Lst encB 5 h0.next h t (128 :: List.replicate (zeroN rest.length) 0) → Wp (j (some ⟨hb, 0, none⟩) (some ⟨eb, 0, none⟩) t h) Q) (H : Hash n0 h0 eb s rest long) :
    ∀ (d i : Nat) (t : Slc) (h : AHeap), i + d = zeroN rest.length → Keeps h0 h → Lst encB 5 h0.next h t (128 :: List.replicate i 0) →
      Wp (iterK bot (d + 1) (sha_Hash_Sum_l2b k0 D j) (some ⟨hb, 0, none⟩) (some ⟨eb, 0, none⟩) t h) Q := fun d => by
  induction d with
  | zero =>
    intro i t h hi kp L
    rw [iterK_s]; simp only [sha_Hash_Sum_l2b]
    obtain ⟨r, H1, A1, _⟩ := (H.keeps kp).ok
    refine Wp.bnd rfl (Wp.bnd (sldL_at H1.blk (hcells_rest (wl_length s))) ?_)
    have hl : r.len = rest.length := A1.row.1
    have tl := L.len
    rw [List.length_cons, List.length_replicate] at tl
    have e : Int.tmod (IntKind.wrap .i64 ((r.len : Int) + (t.len : Int))) 64 = 56 := by
      rw [hl, tl, w64 _ (by unfold zeroN at hi; omega), Int.tmod_eq_emod_of_nonneg (by omega)]
      unfold zeroN at hi; omega
    rw [e]
    refine Wp.ifn (by simp) ?_
    have : i = zeroN rest.length := by omega
    subst this
    exact hj h t kp L
  | succ d ih =>
    intro i t h hi kp L
    rw [iterK_s]; simp only [sha_Hash_Sum_l2b]
    obtain ⟨r, H1, A1, _⟩ := (H.keeps kp).ok
    refine Wp.bnd rfl (Wp.bnd (sldL_at H1.blk (hcells_rest (wl_length s))) ?_)
    have hl : r.len = rest.length := A1.row.1
    have tl := L.len
    rw [List.length_cons, List.length_replicate] at tl
    have e : Int.tmod (IntKind.wrap .i64 ((r.len : Int) + (t.len : Int))) 64 ≠ 56 := by
      rw [hl, tl, w64 _ (by unfold zeroN at hi; omega), Int.tmod_eq_emod_of_nonneg (by omega)]
      unfold zeroN at hi; omega
    refine Wp.ifp (by simpa using e) ?_
    refine Wp.bnd rdS_one ?_
    have k1 : Keeps h (h.new (.cells [.int .u8 0] 5 true 0)) := Keeps.new h _
    obtain ⟨t', h', e1, L', c1⟩ := (L.chg k1 fun _ _ f => f).app (bytes := 1) (fun _ => rfl) [0] (by simp) (by simp; unfold zeroN at hi; omega) (by omega) (Nat.le_trans kp.nx k1.nx)
    refine Wp.bnd e1 ?_
    refine ih (i + 1) t' h' (by omega) ?_ ?_
    · exact Chg.beh (kp.trans k1) c1 fun x hx e => by have e : h0.next ≤ x := e; omega
    · rw [List.replicate_succ']; simpa using L'
theorem be64_length (n : Nat) : (be64 n).length = 8 := rfl
theorem be64_get (n : Nat) : ∀ j, j < 8 → (be64 n)[j]? = some (b8 (n / 2 ^ (56 - 8 * j)))
  | 0, _ => rfl
  | 1, _ => rfl
  | 2, _ => rfl
  | 3, _ => rfl
  | 4, _ => rfl
  | 5, _ => rfl
  | 6, _ => rfl
  | 7, _ => by show some (b8 n) = some (b8 (n / 2 ^ 0)); rw [Nat.pow_zero, Nat.div_one]
  | n + 8, h => by omega
theorem b8_int (n : Nat) : IntKind.wrap .u8 (n : Int) = ((b8 n).toNat : Int) := by
  rw [Go.IntKind.wrap_u8]
  unfold b8
  rw [UInt8.toNat_ofNat']
  omega
theorem sm_l1 {k0 : Nat} (D : CallF) (j) (bot) {Q : ByteArray × AHeap → Prop} {e : Option Addr} {base : List UInt8} (hbl : base.length ≤ 1000) (c : Nat) {h0 : AHeap}
    (hj : ∀ h t, Keeps h0 h → Lst encB 5 h0.next h t (base ++ be64 c) → Wp (j e t h) Q) :
    ∀ (d i : Nat) (t : Slc) (h : AHeap), i + d = 8 → Keeps h0 h → Lst encB 5 h0.next h t (base ++ (be64 c).take i) →
      Wp (iterK bot (d + 1) (sha_Hash_Sum_l1b k0 D j) e t (c : Int) (56 - 8 * (i : Int)) h) Q := fun d => by
  induction d with
  | zero =>
    intro i t h hi kp L
    rw [iterK_s]; simp only [sha_Hash_Sum_l1b]
    obtain rfl : i = 8 := by omega
    have e8 : (be64 c).take 8 = be64 c := rfl
    rw [e8] at L
    exact Wp.ifn (by simp) (hj h t kp L)
  | succ d ih =>
    intro i t h hi kp L
    rw [iterK_s]; simp only [sha_Hash_Sum_l1b]
    refine Wp.ifp (by simp; omega) ?_
    refine Wp.ifp (by omega) ?_
    have es : (56 - 8 * (i : Int)).toNat = 56 - 8 * i := by omega
    have em : min (56 - 8 * i) (IntKind.bits .u64) = 56 - 8 * i := Nat.min_eq_left (by show 56 - 8 * i ≤ 64; omega)
    have ep : (2 : Int) ^ (56 - 8 * i) = ((2 ^ (56 - 8 * i) : Nat) : Int) := by simp
    have ef : Int.fdiv (c : Int) ((2 ^ (56 - 8 * i) : Nat) : Int) = ((c / 2 ^ (56 - 8 * i) : Nat) : Int) := by
      rw [Int.fdiv_eq_ediv_of_nonneg _ (Int.natCast_nonneg _)]; simp
    rw [es, em, ep, ef, b8_int]
    refine Wp.bnd rdS_one ?_
    have k1 : Keeps h (h.new (.cells [.int .u8 ((b8 (c / 2 ^ (56 - 8 * i))).toNat : Int)] 5 true 0)) := Keeps.new h _
    obtain ⟨t', h', e1, L', c1⟩ := (L.chg k1 fun _ _ f => f).app (bytes := 1) (fun _ => rfl) [b8 (c / 2 ^ (56 - 8 * i))] (by simp) (by rw [List.length_append, List.length_take, be64_length]; simp; omega) (by omega) (Nat.le_trans kp.nx k1.nx)
    refine Wp.bnd e1 ?_
    have ew : IntKind.wrap .i64 (56 - 8 * (i : Int) - 8) = 56 - 8 * ((i + 1 : Nat) : Int) := by rw [w64 _ (by omega)]; omega
    rw [ew]
    refine ih (i + 1) t' h' (by omega) ?_ ?_
    · exact Chg.beh (kp.trans k1) c1 fun x hx e => by have e : h0.next ≤ x := e; omega
    · rw [List.take_add_one, be64_get c i (by omega)]
      simpa using L'
theorem out_bytes (x : UInt32) : [Value.int .u8 (IntKind.wrap .u8 (Int.fdiv (x.toNat : Int) 16777216)), .int .u8 (IntKind.wrap .u8 (Int.fdiv (x.toNat : Int) 65536)), .int .u8 (IntKind.wrap .u8 (Int.fdiv (x.toNat : Int) 256)), .int .u8 (IntKind.wrap .u8 (x.toNat : Int))] = (out32 x).map encB := by
  have e1 : Int.fdiv (x.toNat : Int) 16777216 = ((x.toNat / 16777216 : Nat) : Int) := by rw [Int.fdiv_eq_ediv_of_nonneg _ (by omega)]; simp
  have e2 : Int.fdiv (x.toNat : Int) 65536 = ((x.toNat / 65536 : Nat) : Int) := by rw [Int.fdiv_eq_ediv_of_nonneg _ (by omega)]; simp
  have e3 : Int.fdiv (x.toNat : Int) 256 = ((x.toNat / 256 : Nat) : Int) := by rw [Int.fdiv_eq_ediv_of_nonneg _ (by omega)]; simp
  rw [e1, e2, e3, b8_int, b8_int, b8_int, b8_int]; rfl
theorem out_flat (s : St) : outSt s = ((wl s).map out32).flatten := by simp [outSt, wl]
theorem sm_l0 {k0 : Nat} (D : CallF) (j) (bot) {Q : ByteArray × AHeap → Prop} (s : St) {h0 : AHeap}
    (hj : ∀ h t, Keeps h0 h → Acc encB 5 h0.next h t (outSt s) → Wp (j t h) Q) :
    ∀ (d i : Nat) (t : Slc) (h : AHeap), i + d = 8 → Keeps h0 h → Acc encB 5 h0.next h t (((wl s).take i).map out32).flatten →
      Wp (iterK bot (d + 1) (sha_Hash_Sum_l0b k0 D j) t ((s.a.toNat : Int), (s.b.toNat : Int), (s.c.toNat : Int), (s.d.toNat : Int), (s.e.toNat : Int), (s.f.toNat : Int), (s.g.toNat : Int), (s.h.toNat : Int)) (i : Int) h) Q := fun d => by
  induction d with
  | zero =>
    intro i t h hi kp A
    rw [iterK_s]; simp only [sha_Hash_Sum_l0b]
    obtain rfl : i = 8 := by omega
    refine Wp.ifn (by simp) (hj h t kp ?_)
    rw [out_flat]; exact A
  | succ d ih =>
    intro i t h hi kp A
    rw [iterK_s]; simp only [sha_Hash_Sum_l0b]
    refine Wp.ifp (by simp; omega) ?_
    refine Wp.ifp (by omega) ?_
    obtain ⟨x, hx⟩ := isome (l := wl s) (i := i) (by rw [wl_length]; omega)
    have hlx : ((wl s).map encU)[((i : Int)).toNat * 1]? = some (.int .u32 (x.toNat : Int)) := by
      rw [Int.toNat_natCast, Nat.mul_one, List.getElem?_map, hx]; rfl
    refine Wp.bnd hlx (Wp.bnd rfl ?_)
    rw [out_bytes]
    have k1 : Keeps h (h.new (.cells ((out32 x).map encB) 5 true 0)) := Keeps.new h _
    have hr := rdL_all (h := h.new (.cells ((out32 x).map encB) 5 true 0)) (b := h.next) (c := (out32 x).map encB) (e := 5) (r := true) (fz := 0) (by simp)
    have hr' : Gx.rdS 1 (⟨some ⟨h.next, 0, some 0⟩, 4, 4⟩ : Slc) (h.new (.cells ((out32 x).map encB) 5 true 0)) = some ((out32 x).map encB) := hr
    refine Wp.bnd hr' ?_
    have hlen : (((wl s).take i).map out32).flatten.length = 4 * i := by
      have : ∀ l : List UInt32, (l.map out32).flatten.length = 4 * l.length := fun l => by
        induction l with
        | nil => rfl
        | cons y l ih => rw [List.map_cons, List.flatten_cons, List.length_append, ih]; simp [out32]; omega
      rw [this, List.length_take, wl_length]; omega
    obtain ⟨t', h', e1, A', c1, _⟩ := (A.keeps k1).app (bytes := 1) (fun _ => rfl) (out32 x) (by rw [hlen]; simp [out32]; omega) (by omega) (Nat.le_trans kp.nx k1.nx)
    refine Wp.bnd e1 ?_
    rw [Gx.w1 (by omega)]
    refine ih (i + 1) t' h' (by omega) ?_ ?_
    · exact Chg.beh (kp.trans k1) c1 fun y hy ⟨a, ha, e⟩ => by have := (A.lt a ha).2; omega
    · rw [List.take_add_one, hx]
      simpa using A'
theorem hsum_spec {k0 : Nat} (hk : 200 ≤ k0) (D : CallF) {n0 : Nat} {h : AHeap} {hb : Nat} {s : St} {rest : List UInt8} {long : Nat} (H : Hash n0 h hb s rest long) (hrl : rest.length < 64) (hlong : long ≤ 90000000) (kg : KG 0 h) :
    Wp (sha_Hash_Sum k0 D (some ⟨hb, 0, none⟩) h) fun q => q.1 = ⟨⟨outSt (absorb s (rest ++ (128 :: List.replicate (zeroN rest.length) 0 ++ be64 (long * 8))))⟩⟩ ∧ Keeps h q.2 := by
  simp only [sha_Hash_Sum]
  obtain ⟨h1, eb, e1, k1, F1, H1⟩ := fork_spec k0 D H (by omega)
  refine Wp.bnd e1 ?_
  let h2 := h1.new (.cells [.int .u8 128] 5 true 0)
  have k2 : Keeps h1 h2 := Keeps.new h1 _
  have F2 := F1.keeps k2
  have L2 : Lst encB 5 h1.next h2 (⟨some ⟨h1.next, 0, some 0⟩, 1, 1⟩ : Slc) [128] := ⟨by simp, h1.next, some 0, rfl, by simp [h2, outB, encB], Nat.le_refl _, by simp [h2], .inl rfl⟩
  refine Wp.jn fun j2 hj2 => ?_
  unfold sha_Hash_Sum_l2
  have hz : zeroN rest.length < 64 := Nat.mod_lt _ (by decide)
  obtain ⟨bot2, b2⟩ := iterK_of (fun _ _ _ _ => none) (sha_Hash_Sum_l2b k0 D j2) (show zeroN rest.length + 1 ≤ k0 by omega)
  rw [b2]
  refine sm_l2 (k0 := k0) D j2 bot2 (n0 := h.next) (long := long) hrl (h0 := h1) ?_ F1 (zeroN rest.length) 0 _ h2 (by omega) k2 L2
  intro h3 t3 k3 L3
  subst hj2
  dsimp only
  obtain ⟨r, HS3, _, _⟩ := (H1.keeps k3).ok
  refine Wp.bnd rfl (Wp.bnd (sldI_at HS3.blk (hcells_long (wl_length s))) ?_)
  refine Wp.jn fun j1 hj1 => ?_
  unfold sha_Hash_Sum_l1
  obtain ⟨bot1, b1⟩ := iterK_of (fun _ _ _ _ _ => none) (sha_Hash_Sum_l1b k0 D j1) (show 8 + 1 ≤ k0 by omega)
  rw [b1]
  have ec : IntKind.wrap .u64 (IntKind.wrap .u64 (long : Int) * 8) = ((long * 8 : Nat) : Int) := by
    rw [wr_u64 (long : Int) (by omega) (by omega), wr_u64 _ (by omega) (by omega)]; omega
  rw [ec]
  have hbase : (128 :: List.replicate (zeroN rest.length) (0 : UInt8)).length ≤ 1000 := by simp; omega
  have L3' : Lst encB 5 h1.next h3 t3 (128 :: List.replicate (zeroN rest.length) 0 ++ (be64 (long * 8)).take 0) := by simpa using L3
  have step := sm_l1 (k0 := k0) D j1 bot1 (Q := fun q => q.1 = ⟨⟨outSt (absorb s (rest ++ (128 :: List.replicate (zeroN rest.length) 0 ++ be64 (long * 8))))⟩⟩ ∧ Keeps h q.2) (e := some ⟨eb, 0, none⟩) (base := 128 :: List.replicate (zeroN rest.length) 0) hbase (long * 8) (h0 := h1) ?_ 8 0 t3 h3 (by omega) k3 L3'
  · exact step
  intro h4 t4 k4 L4
  subst hj1
  dsimp only
  obtain ⟨tb, sp, rfl, g4, _, _, _⟩ := L4.st
  have bo := bytesOf_out (h := h4) (b := tb) (sp := sp) (cap := (128 :: List.replicate (zeroN rest.length) 0 ++ be64 (long * 8)).length) (l := 128 :: List.replicate (zeroN rest.length) 0 ++ be64 (long * 8)) (e := 5) (r := true) (fz := 0) g4
  refine Wp.bnd bo ?_
  have F4 := F1.keeps k4
  have tl : (128 :: List.replicate (zeroN rest.length) 0 ++ be64 (long * 8)).length ≤ 100 := by rw [List.length_append, be64_length]; simp; omega
  have tz : (⟨⟨128 :: List.replicate (zeroN rest.length) 0 ++ be64 (long * 8)⟩⟩ : ByteArray).size ≤ 100 := by rw [size_mk]; exact tl
  refine Wp.call (write_spec (k0 := k0) (by omega) D F4 (kg.chg (k1.trans k4) fun f => f) (by have := kg.lt; omega) ⟨⟨128 :: List.replicate (zeroN rest.length) 0 ++ be64 (long * 8)⟩⟩ (by omega) (by omega) (by omega)) fun q ⟨q1, q2⟩ => ?_
  obtain ⟨u5, hh5⟩ := q
  simp only at q1 q2 ⊢
  obtain ⟨r5, HS5, _, _⟩ := q1.ok
  refine Wp.jn fun j0 hj0 => ?_
  have tk : ∀ (u : St) (r : Slc) (l : Int), (hcells (wl u) r l).take 8 = (wl u).map encU := fun u r l => rfl
  have ld5 := sldA_take (sp := none) HS5.blk (show 0 < 8 by decide) (by rw [hcells_length (wl_length _)]; decide)
  rw [tk] at ld5
  refine Wp.bnd rfl (Wp.bnd ld5 (Wp.bnd rfl ?_))
  unfold sha_Hash_Sum_l0
  obtain ⟨bot0, b0⟩ := iterK_of (fun _ _ _ _ => none) (sha_Hash_Sum_l0b k0 D j0) (show 8 + 1 ≤ k0 by omega)
  rw [b0]
  have k5 : Keeps h hh5 := Chg.beh (k1.trans k4) q2 fun x hx e => by have e : h.next ≤ x := e; omega
  refine sm_l0 (k0 := k0) D j0 bot0 (absorb s (rest ++ bl ⟨⟨128 :: List.replicate (zeroN rest.length) 0 ++ be64 (long * 8)⟩⟩)) (h0 := hh5) ?_ 8 0 ⟨none, 0, 0⟩ hh5 (by omega) (Chg.refl _ _) (Acc.nil _ _ _ _)
  intro h6 t6 k6 A6
  subst hj0
  dsimp only
  rcases A6.st with ⟨_, e⟩ | ⟨b, g⟩
  · simp [outSt, out32] at e
  · have hg := g.s
    subst hg
    have bo := bytesOf_out (h := h6) (b := b) (sp := some 2) (cap := (outSt (absorb s (rest ++ bl ⟨⟨128 :: List.replicate (zeroN rest.length) 0 ++ be64 (long * 8)⟩⟩))).length) (l := outSt (absorb s (rest ++ bl ⟨⟨128 :: List.replicate (zeroN rest.length) 0 ++ be64 (long * 8)⟩⟩))) (e := 5) (r := true) (fz := 0) g.blk
    exact Wp.bnd bo (Wp.of ⟨rfl, k5.trans k6⟩)
end Gz
namespace Gz
open Go Gx Go.Proofs
def catL (xs : List ByteArray) : List UInt8 := (xs.map bl).flatten
theorem zeroN_mod (n : Nat) : zeroN (n % 64) = zeroN n := by unfold zeroN; rw [Nat.mod_mod]
theorem catL_take {xs : List ByteArray} {i : Nat} {x : ByteArray} (hx : xs[i]? = some x) : catL (xs.take (i + 1)) = catL (xs.take i) ++ bl x := by
  unfold catL
  rw [List.take_add_one, hx]
  simp
theorem catL_le (xs : List ByteArray) (i : Nat) : (catL (xs.take i)).length ≤ (catL xs).length := by
  have : catL xs = catL (xs.take i) ++ catL (xs.drop i) := by
    unfold catL
    rw [← List.flatten_append, ← List.map_append, List.take_append_drop]
  rw [this, List.length_append]; omega
theorem sum_spec {k0 : Nat} (hk : 200 ≤ k0) (D : CallF) {h : AHeap} {y : Slc} {xs : List ByteArray} (kg : KG 0 h) (R : Row encS h y xs) (hx : (catL xs).length ≤ 90000000) (hkx : (catL xs).length < 64 * k0) (hxl : xs.length < k0) (hxl2 : xs.length < 9223372036854775807) :
    Wp (sha_Sum k0 D y h) fun q => q.1 = ⟨⟨digest (catL xs)⟩⟩ ∧ Keeps h q.2 := by
  simp only [sha_Sum]
  obtain ⟨h1, hb, e1, k1, hle, H1⟩ := hnew_spec k0 D h
  refine Wp.bnd e1 ?_
  refine Wp.jn fun j hj => ?_
  unfold sha_Sum_l0
  obtain ⟨bot, b⟩ := iterK_of (fun _ _ _ _ _ => none) (sha_Sum_l0b k0 D j) (show xs.length + 1 ≤ k0 by omega)
  rw [b, R.1]
  have H1' : Hash h.next h1 hb st0 [] 0 := H1
  have main : ∀ (Q : ByteArray × AHeap → Prop), (∀ g, Chg (fun x => h.next ≤ x) h1 g → Hash h.next g hb (absorb st0 (catL xs)) (restOf (catL xs)) (catL xs).length → Wp (j (some ⟨hb, 0, none⟩) g) Q) →
      ∀ (d i : Nat) (g : AHeap), i + d = xs.length → Chg (fun x => h.next ≤ x) h1 g → Hash h.next g hb (absorb st0 (catL (xs.take i))) (restOf (catL (xs.take i))) (catL (xs.take i)).length →
        Wp (iterK bot (d + 1) (sha_Sum_l0b k0 D j) (some ⟨hb, 0, none⟩) y (xs.length : Int) (i : Int) g) Q := fun Q hQ d => by
    induction d with
    | zero =>
      intro i g hi c H
      rw [iterK_s]; simp only [sha_Sum_l0b]
      obtain rfl : i = xs.length := by omega
      rw [List.take_length] at H
      exact Wp.ifn (by simp) (hQ g c H)
    | succ d ih =>
      intro i g hi c H
      rw [iterK_s]; simp only [sha_Sum_l0b]
      have kp : Keeps h g := Chg.beh k1 c fun x hx e => by have e : h.next ≤ x := e; omega
      refine Wp.ifp (by simp; omega) ?_
      obtain ⟨x, hxi⟩ := isome (l := xs) (i := i) (by omega)
      obtain ⟨q, i1, i2⟩ := (R.keeps kp).ldS hxi
      refine Wp.bnd i1 (Wp.bnd i2 ?_)
      have hc := catL_take hxi
      have hle' := catL_le xs (i + 1)
      rw [hc, List.length_append, bl_length] at hle'
      have hrl := restOf_length (catL (xs.take i))
      refine Wp.call (write_spec (k0 := k0) (by omega) D H (kg.chg kp fun f => f) (by have := kg.lt; omega) x (by omega) (by omega) (by omega)) fun q ⟨q1, q2⟩ => ?_
      rw [Gx.w1 (by omega)]
      refine ih (i + 1) q.2 (by omega) (c.trans q2) ?_
      rw [hc, List.length_append, bl_length, ← absorb_app (bl x) _ st0 (catL (xs.take i)) (Nat.le_refl _), ← restOf_app]
      exact q1
  refine main _ ?_ xs.length 0 h1 (by omega) (Chg.refl _ _) ?_
  · intro g c H
    subst hj
    dsimp only
    have kp : Keeps h g := Chg.beh k1 c fun x hx e => by have e : h.next ≤ x := e; omega
    refine Wp.call (hsum_spec hk D H (by rw [restOf_length]; omega) (by omega) (kg.chg kp fun f => f)) fun q ⟨q1, q2⟩ => ?_
    refine Wp.of ⟨?_, kp.trans q2⟩
    rw [q1, restOf_length, zeroN_mod, absorb_app _ _ _ _ (Nat.le_refl _)]
    rfl
  · have e0 : catL (xs.take 0) = [] := rfl
    rw [e0, absorb_lt (by simp), restOf_lt (by simp)]
    exact H1'
end Gz
namespace Gz
open Go Gx
theorem wraps_u32 (n : Int) (h₀ : 0 ≤ n) (h₁ : n < 2 ^ 32) : IntKind.u32.wrap n = n := by rw [Go.IntKind.wrap_u32]; omega
theorem xor32 {a b : Nat} (ha : a < 2 ^ 32) (hb : b < 2 ^ 32) : Go.bits .xor .u32 (a : Int) (b : Int) = ((a ^^^ b : Nat) : Int) := bx .u32 32 (by decide) wraps_u32 a b ha hb
theorem and32 {a b : Nat} (ha : a < 2 ^ 32) (hb : b < 2 ^ 32) : Go.bits .and .u32 (a : Int) (b : Int) = ((a &&& b : Nat) : Int) := (bits_nat .u32 32 (by decide) wraps_u32 a b ha hb).1
def crcBit (r : Nat) : Nat := if r % 2 = 1 then (r / 2) ^^^ 2197175160 else r / 2
def crcBits : Nat → Nat → Nat
  | 0, r => r
  | n + 1, r => crcBits n (crcBit r)
def crcN (r : Nat) : List UInt8 → Nat
  | [] => r
  | c :: l => crcN (crcBits 8 (r ^^^ c.toNat)) l
def crc (l : List UInt8) : Nat := crcN 4294967295 l ^^^ 4294967295
theorem crcBit_lt {r : Nat} (h : r < 4294967296) : crcBit r < 4294967296 := by
  unfold crcBit
  split
  · exact Nat.xor_lt_two_pow (n := 32) (by omega) (by decide)
  · omega
theorem crcBits_lt : ∀ (n : Nat) {r : Nat}, r < 4294967296 → crcBits n r < 4294967296
  | 0, _, h => h
  | n + 1, _, h => crcBits_lt n (crcBit_lt h)
theorem byte_lt (c : UInt8) : c.toNat < 256 := UInt8.toNat_lt c
theorem xorc_lt {r : Nat} (c : UInt8) (h : r < 4294967296) : r ^^^ c.toNat < 4294967296 := Nat.xor_lt_two_pow (n := 32) h (by have := byte_lt c; omega)
theorem crcN_lt : ∀ (l : List UInt8) {r : Nat}, r < 4294967296 → crcN r l < 4294967296
  | [], _, h => h
  | c :: l, _, h => crcN_lt l (crcBits_lt 8 (xorc_lt c h))
theorem crc_lt (l : List UInt8) : crc l < 4294967296 := Nat.xor_lt_two_pow (n := 32) (crcN_lt l (by decide)) (by decide)
theorem bit_u32 {r : Nat} (h : r < 4294967296) :
    Go.bits .xor .u32 (Int.fdiv (r : Int) 2) (Go.bits .and .u32 2197175160 (IntKind.wrap .u32 (0 - Go.bits .and .u32 (r : Int) 1))) = (crcBit r : Int) := by
  have e1 : Go.bits .and .u32 (r : Int) 1 = ((r % 2 : Nat) : Int) := by
    have := and32 (a := r) (b := 1) h (by decide)
    rw [Nat.and_one_is_mod] at this
    exact this
  have e2 : Int.fdiv (r : Int) 2 = ((r / 2 : Nat) : Int) := by
    rw [Int.fdiv_eq_ediv_of_nonneg _ (by decide)]; simp
  rw [e1, e2]
  unfold crcBit
  rcases Nat.mod_two_eq_zero_or_one r with h0 | h1
  · rw [h0]
    have : Go.bits .and .u32 2197175160 (IntKind.wrap .u32 (0 - ((0 : Nat) : Int))) = ((0 : Nat) : Int) := by decide +kernel
    rw [this, xor32 (by omega) (by decide)]
    simp
  · rw [h1]
    have : Go.bits .and .u32 2197175160 (IntKind.wrap .u32 (0 - ((1 : Nat) : Int))) = ((2197175160 : Nat) : Int) := by decide +kernel
    rw [this, xor32 (by omega) (by decide)]
    simp
theorem bit_i64 {r : Nat} (h : r < 4294967296) (h1 : r % 2 = 1) : Go.bits .xor .i64 (((r / 2 : Nat) : Int)) 2197175160 = (crcBit r : Int) := by
  have := xor64 (a := r / 2) (b := 2197175160) (by omega) (by decide)
  rw [show ((2197175160 : Nat) : Int) = 2197175160 from rfl] at this
  rw [this]; unfold crcBit; rw [if_pos h1]
theorem not_u32 {r : Nat} (h : r < 4294967296) : Go.bits .xor .u32 (IntKind.max .u32) (r : Int) = ((r ^^^ 4294967295 : Nat) : Int) := by
  have e : IntKind.max .u32 = ((4294967295 : Nat) : Int) := by decide +kernel
  rw [e, xor32 (by decide) h, Nat.xor_comm]
end Gz
namespace Gz
open Go Gx Go.Proofs
theorem tm2 (r : Nat) : Int.tmod (r : Int) 2 = ((r % 2 : Nat) : Int) := rfl
theorem td2 (r : Nat) : Int.tdiv (r : Int) 2 = ((r / 2 : Nat) : Int) := rfl
theorem crc_l1 (K : Nat) (D : CallF) (j) (bot) (y : Slc) (n i0 : Int) (h : AHeap) : ∀ (m i r : Nat), i + m = 8 → r < 4294967296 →
    iterK bot (m + 1) (shard_Crc_l1b K D j) (r : Int) y n i0 (i : Int) h = j (crcBits m r : Nat) y n i0 h
  | 0, i, r, hi, hr => by
    obtain rfl : i = 8 := by omega
    rw [iterK_s]; simp only [shard_Crc_l1b]
    exact ifn (by decide) rfl
  | m + 1, i, r, hi, hr => by
    rw [iterK_s]; simp only [shard_Crc_l1b]
    refine ifp (by simp; omega) ?_
    rw [bit_u32 hr, w1 (by omega), show crcBits (m + 1) r = crcBits m (crcBit r) from rfl]
    exact crc_l1 K D j bot y n i0 h m (i + 1) (crcBit r) (by omega) (crcBit_lt hr)
theorem crc_l0 {k : Nat} (hk : 9 ≤ k) (D : CallF) (j) (bot) {h : AHeap} {b : Nat} {l : List UInt8} {e : TypeId} {rw' : Bool} {fz cap : Nat} {sp : Option Nat} (hb : h.get b = some (.cells (l.map encB) e rw' fz)) (hs : l.length < 9223372036854775807) : ∀ (m i r : Nat), i + m = l.length → r < 4294967296 →
    iterK bot (m + 1) (shard_Crc_l0b k D j) (r : Int) (⟨some ⟨b, 0, sp⟩, l.length, cap⟩ : Slc) (l.length : Int) (i : Int) h = j (crcN r (l.drop i) : Nat) h
  | 0, i, r, hi, hr => by
    obtain rfl : i = l.length := by omega
    rw [iterK_s]; simp only [shard_Crc_l0b]
    refine ifn (by simp) ?_
    rw [List.drop_length]; rfl
  | m + 1, i, r, hi, hr => by
    rw [iterK_s]; simp only [shard_Crc_l0b]
    refine ifp (by simp; omega) ?_
    obtain ⟨x, hx⟩ := isome (l := l) (i := i) (by omega)
    refine jn ?_
    refine bnd (idxL_out (by omega)) ?_
    refine bnd (rdB_out hb hx) ?_
    have hx' := byte_lt x
    have e1 : IntKind.wrap .u32 (x.toNat : Int) = (x.toNat : Int) := wraps_u32 _ (by omega) (by omega)
    rw [e1, xor32 hr (by omega)]
    unfold shard_Crc_l1
    obtain ⟨bot', e2⟩ := iterK_of (α := Int → Slc → Int → Int → Int → AHeap → Option ((Int) × AHeap)) (fun _ _ _ _ _ _ => none) (shard_Crc_l1b k D fun (r12 : Int) (y13 : Slc) (y14 : Int) (y15 : Int) (h16 : AHeap) => iterK bot (m + 1) (shard_Crc_l0b k D j) r12 y13 y14 (IntKind.wrap .i64 (y15 + 1)) h16) hk
    rw [e2]
    have := crc_l1 k D (fun (r12 : Int) (y13 : Slc) (y14 : Int) (y15 : Int) (h16 : AHeap) => iterK bot (m + 1) (shard_Crc_l0b k D j) r12 y13 y14 (IntKind.wrap .i64 (y15 + 1)) h16) bot' (⟨some ⟨b, 0, sp⟩, l.length, cap⟩ : Slc) (l.length : Int) (i : Int) h 8 0 (r ^^^ x.toNat) (by omega) (xorc_lt x hr)
    refine this.trans ?_
    rw [w1 (by omega), dropc hx]
    exact crc_l0 hk D j bot hb hs m (i + 1) _ (by omega) (crcBits_lt 8 (xorc_lt x hr))
theorem crc_spec {k : Nat} (hk : 9 ≤ k) (D : CallF) (s : ByteArray) (h : AHeap) (hs : s.size < k) (hs2 : s.size < 9223372036854775807) : shard_Crc k D s h = some (((crc (bl s) : Nat) : Int), h.new (.cells (bytesL s) 5 true 0)) := by
  simp only [shard_Crc]
  refine jn ?_
  unfold shard_Crc_l0
  have hl := bl_length s
  obtain ⟨bot', e2⟩ := iterK_of (α := Int → Slc → Int → Int → AHeap → Option ((Int) × AHeap)) (fun _ _ _ _ _ => none) (shard_Crc_l0b k D fun (r1 : Int) (h2 : AHeap) => some (IntKind.wrap .i64 (Go.bits .xor .u32 (IntKind.max .u32) r1), h2)) (show s.size + 1 ≤ k from hs)
  rw [e2]
  have := crc_l0 (k := k) hk D (fun (r1 : Int) (h2 : AHeap) => some (IntKind.wrap .i64 (Go.bits .xor .u32 (IntKind.max .u32) r1), h2)) bot' (h := h.new (.cells (bytesL s) 5 true 0)) (b := h.next) (l := bl s) (e := 5) (rw' := true) (fz := 0) (cap := s.size) (sp := some 2) (by simp [bytesL_bl]) (by omega) s.size 0 4294967295 (by omega) (by decide)
  rw [hl] at this
  refine this.trans ?_
  simp only [List.drop_zero]
  have hc := crcN_lt (bl s) (r := 4294967295) (by decide)
  rw [not_u32 hc]
  have hcc := crc_lt (bl s)
  show some (IntKind.wrap .i64 ((crc (bl s) : Nat) : Int), _) = _
  rw [w64 _ (by omega)]
theorem rcrc_l1 (K : Nat) (D : CallF) (j) (bot) (s : ByteArray) (i0 : Int) (h : AHeap) : ∀ (m i r : Nat), i + m = 8 → r < 4294967296 →
    iterK bot (m + 1) (ref06_Crc_l1b K D j) s (r : Int) i0 (i : Int) h = j s (crcBits m r : Nat) i0 h
  | 0, i, r, hi, hr => by
    obtain rfl : i = 8 := by omega
    rw [iterK_s]; simp only [ref06_Crc_l1b]
    exact ifn (by decide) rfl
  | m + 1, i, r, hi, hr => by
    rw [iterK_s]; simp only [ref06_Crc_l1b]
    refine ifp (by simp; omega) ?_
    refine jn ?_
    have e2 : IntKind.wrap .i64 (Int.tdiv (r : Int) 2) = ((r / 2 : Nat) : Int) := by rw [td2, w64 _ (by omega)]
    rw [tm2, e2]
    rcases Nat.mod_two_eq_zero_or_one r with h0 | h1
    · refine ifn (by rw [h0]; decide) ?_
      show iterK bot (m + 1) (ref06_Crc_l1b K D j) s _ i0 (IntKind.wrap .i64 ((i : Int) + 1)) h = _
      rw [w1 (by omega), show crcBits (m + 1) r = crcBits m (crcBit r) from rfl]
      have := rcrc_l1 K D j bot s i0 h m (i + 1) (crcBit r) (by omega) (crcBit_lt hr)
      rw [show crcBit r = r / 2 by unfold crcBit; rw [if_neg (by omega)]] at this
      refine this.trans ?_
      rw [show crcBit r = r / 2 by unfold crcBit; rw [if_neg (by omega)]]
    · refine ifp (by rw [h1]; decide) ?_
      rw [bit_i64 hr h1]
      show iterK bot (m + 1) (ref06_Crc_l1b K D j) s _ i0 (IntKind.wrap .i64 ((i : Int) + 1)) h = _
      rw [w1 (by omega), show crcBits (m + 1) r = crcBits m (crcBit r) from rfl]
      exact rcrc_l1 K D j bot s i0 h m (i + 1) (crcBit r) (by omega) (crcBit_lt hr)
theorem rcrc_l0 {k : Nat} (hk : 9 ≤ k) (D : CallF) (j) (bot) (s : ByteArray) (h : AHeap) (hs : s.size < 9223372036854775807) : ∀ (m i r : Nat), i + m = s.size → r < 4294967296 →
    iterK bot (m + 1) (ref06_Crc_l0b k D j) s (r : Int) (i : Int) h = j (crcN r ((bl s).drop i) : Nat) h
  | 0, i, r, hi, hr => by
    obtain rfl : i = s.size := by omega
    rw [iterK_s]; simp only [ref06_Crc_l0b]
    refine ifn (by simp) ?_
    rw [List.drop_eq_nil_of_le (by rw [bl_length]; omega)]; rfl
  | m + 1, i, r, hi, hr => by
    rw [iterK_s]; simp only [ref06_Crc_l0b]
    refine ifp (by simp; omega) ?_
    obtain ⟨x, hx⟩ := isome (l := bl s) (i := i) (by rw [bl_length]; omega)
    refine jn ?_
    refine bnd (idxS_of hx) ?_
    have hx' := byte_lt x
    have e1 : IntKind.wrap .i64 (x.toNat : Int) = (x.toNat : Int) := w64 _ (by omega)
    rw [e1, xor64 (by omega) (by omega)]
    unfold ref06_Crc_l1
    obtain ⟨bot', e2⟩ := iterK_of (α := ByteArray → Int → Int → Int → AHeap → Option ((Int) × AHeap)) (fun _ _ _ _ _ => none) (ref06_Crc_l1b k D fun (s9 : ByteArray) (r10 : Int) (i11 : Int) (h12 : AHeap) => iterK bot (m + 1) (ref06_Crc_l0b k D j) s9 r10 (IntKind.wrap .i64 (i11 + 1)) h12) hk
    rw [e2]
    have := rcrc_l1 k D (fun (s9 : ByteArray) (r10 : Int) (i11 : Int) (h12 : AHeap) => iterK bot (m + 1) (ref06_Crc_l0b k D j) s9 r10 (IntKind.wrap .i64 (i11 + 1)) h12) bot' s (i : Int) h 8 0 (r ^^^ x.toNat) (by omega) (xorc_lt x hr)
    refine this.trans ?_
    rw [w1 (by omega), dropc hx]
    exact rcrc_l0 hk D j bot s h hs m (i + 1) _ (by omega) (crcBits_lt 8 (xorc_lt x hr))
theorem rcrc_spec {k : Nat} (hk : 9 ≤ k) (D : CallF) (s : ByteArray) (h : AHeap) (hs : s.size < k) (hs2 : s.size < 9223372036854775807) : ref06_Crc k D s h = some (((crc (bl s) : Nat) : Int), h) := by
  simp only [ref06_Crc]
  refine jn ?_
  unfold ref06_Crc_l0
  obtain ⟨bot', e2⟩ := iterK_of (α := ByteArray → Int → Int → AHeap → Option ((Int) × AHeap)) (fun _ _ _ _ => none) (ref06_Crc_l0b k D fun (r1 : Int) (h2 : AHeap) => some (Go.bits .xor .i64 r1 4294967295, h2)) (show s.size + 1 ≤ k from hs)
  rw [e2]
  have := rcrc_l0 (k := k) hk D (fun (r1 : Int) (h2 : AHeap) => some (Go.bits .xor .i64 r1 4294967295, h2)) bot' s h hs2 s.size 0 4294967295 (by omega) (by decide)
  refine this.trans ?_
  simp only [List.drop_zero]
  have hc := crcN_lt (bl s) (r := 4294967295) (by decide)
  have e : Go.bits .xor .i64 ((crcN 4294967295 (bl s) : Nat) : Int) 4294967295 = ((crc (bl s) : Nat) : Int) := by
    have := xor64 (a := crcN 4294967295 (bl s)) (b := 4294967295) (by omega) (by decide)
    exact this
  rw [e]
theorem crc_example : crc [49, 50, 51, 52, 53, 54, 55, 56, 57] = 3808858755 := by decide +kernel
theorem works_spec {k : Nat} (hk : 20 ≤ k) (D : CallF) (h : AHeap) : ∃ h', law06_works k D h = some (true, h') ∧ Keeps h h' := by
  simp only [law06_works]
  refine ⟨h.new (.cells (bytesL (⟨#[49, 50, 51, 52, 53, 54, 55, 56, 57]⟩ : ByteArray)) 5 true 0), bnd (crc_spec (by omega) D _ h (by show 9 < k; omega) (by decide)) ?_, Keeps.new _ _⟩
  have : bl (⟨#[49, 50, 51, 52, 53, 54, 55, 56, 57]⟩ : ByteArray) = [49, 50, 51, 52, 53, 54, 55, 56, 57] := rfl
  simp only [this, crc_example]
  rfl
end Gz
namespace Gz
open Go Gx
def fixL (n : Nat) : Nat → List UInt8
  | 0 => []
  | k + 1 => UInt8.ofNat (n / 256 ^ k) :: fixL n k
theorem fixL_length (n : Nat) : ∀ k, (fixL n k).length = k
  | 0 => rfl
  | k + 1 => by simp [fixL, fixL_length n k]
theorem fixL_get (n : Nat) : ∀ (k i : Nat), i < k → (fixL n k)[i]? = some (UInt8.ofNat (n / 256 ^ (k - 1 - i)))
  | 0, i, h => by omega
  | k + 1, 0, _ => by simp [fixL]
  | k + 1, i + 1, h => by
    simp only [fixL, List.getElem?_cons_succ]
    rw [fixL_get n k i (by omega)]
    congr 4; omega
def numL (a : Nat) : List UInt8 → Nat
  | [] => a
  | c :: l => numL (a * 256 + c.toNat) l
theorem toNat_ofNat (n : Nat) : (UInt8.ofNat n).toNat = n % 256 := by simp
theorem ofNat_mod (n : Nat) : UInt8.ofNat (n % 256) = UInt8.ofNat n := by
  apply UInt8.toNat_inj.1
  rw [toNat_ofNat, toNat_ofNat]; omega
end Gz
namespace Gz
open Go Gx Go.Proofs
theorem ldI_at {h : AHeap} {b o : Nat} {sp : Option Nat} {c : List Value} {e : TypeId} {r : Bool} {fz : Nat} {k : IntKind} {x : Int} (hb : h.get b = some (.cells c e r fz)) (hc : c[o]? = some (.int k x)) : ldI k ⟨b, o, sp⟩ h = some x := by
  simp [ldI, AHeap.rd1, hb, hc, decI]
theorem ldS_at {h : AHeap} {b o : Nat} {sp : Option Nat} {c : List Value} {e : TypeId} {r : Bool} {fz : Nat} {x : ByteArray} (hb : h.get b = some (.cells c e r fz)) (hc : c[o]? = some (.string x)) : ldS ⟨b, o, sp⟩ h = some x := by
  simp [ldS, AHeap.rd1, hb, hc, decS]
theorem ldA_at {h : AHeap} {b n : Nat} {sp : Option Nat} {c : List Value} {e : TypeId} {r : Bool} {fz : Nat} (hb : h.get b = some (.cells c e r fz)) (hc : c.length = n) : ldA n ⟨b, 0, sp⟩ h = some c := by
  subst hc; exact rdL_all hb
theorem wu8 (m : Nat) : IntKind.wrap .u8 (m : Int) = ((m % 256 : Nat) : Int) := by rw [Go.IntKind.wrap_u8]; omega
theorem td256 (r : Nat) : Int.tdiv (r : Int) 256 = ((r / 256 : Nat) : Int) := rfl
def fixP (n k i : Nat) : List UInt8 := (List.range k).map fun j => if k ≤ j + i then UInt8.ofNat (n / 256 ^ (k - 1 - j)) else 0
theorem fixP_length (n k i : Nat) : (fixP n k i).length = k := by simp [fixP]
theorem fixP_zero (n k : Nat) : fixP n k 0 = List.replicate k 0 := by
  apply List.ext_getElem?
  intro j
  simp only [fixP, List.getElem?_map, List.getElem?_replicate]
  by_cases hj : j < k
  · simp [hj]; omega
  · simp [hj]
theorem fixP_all (n k : Nat) : fixP n k k = fixL n k := by
  apply List.ext_getElem?
  intro j
  by_cases hj : j < k
  · rw [fixL_get n k j hj]; simp [fixP, hj]
  · rw [List.getElem?_eq_none (by rw [fixP_length]; omega), List.getElem?_eq_none (by rw [fixL_length]; omega)]
theorem fixP_set {n k i : Nat} (hi : i < k) : (fixP n k i).set (k - 1 - i) (UInt8.ofNat (n / 256 ^ i)) = fixP n k (i + 1) := by
  apply List.ext_getElem?
  intro j
  by_cases hj : j < k
  · rw [List.getElem?_set]
    by_cases he : k - 1 - i = j
    · rw [if_pos he, if_pos (by rw [fixP_length]; omega)]
      have : i = k - 1 - j := by omega
      subst this
      simp [fixP, hj]
      omega
    · rw [if_neg he]
      simp only [fixP, List.getElem?_map, List.getElem?_range hj, Option.map_some, Option.some.injEq]
      by_cases h1 : k ≤ j + i
      · rw [if_pos h1, if_pos (by omega)]
      · rw [if_neg h1, if_neg (by omega)]
  · rw [List.getElem?_eq_none (by rw [List.length_set, fixP_length]; omega), List.getElem?_eq_none (by rw [fixP_length]; omega)]
abbrev nfT := Int → Int → Slc → Int → Int → AHeap → Option ((ByteArray × Int) × AHeap)
theorem fix_l0 (K : Nat) (D : CallF) (j) (bot : nfT) {n k : Nat} (hn : n < 9223372036854775808) (hk : k ≤ 7) {b cap : Nat} {sp : Option Nat} {e : TypeId} : ∀ (m i : Nat) (h : AHeap), i + m = k → h.get b = some (.cells ((fixP n k i).map encB) e true 0) →
    iterK bot (m + 1) (num_Fixed_l0b K D j) (n : Int) (k : Int) (⟨some ⟨b, 0, sp⟩, k, cap⟩ : Slc) (k : Int) (i : Int) h = j (n : Int) (k : Int) (⟨some ⟨b, 0, sp⟩, k, cap⟩ : Slc) (h.set b (.cells ((fixL n k).map encB) e true 0))
  | 0, i, h, hi, hb => by
    obtain rfl : i = k := by omega
    rw [fixP_all] at hb
    rw [iterK_s]; simp only [num_Fixed_l0b]
    refine ifn (by simp) ?_
    rw [set_self hb]
  | m + 1, i, h, hi, hb => by
    rw [iterK_s]; simp only [num_Fixed_l0b]
    refine ifp (by simp; omega) ?_
    have e1 : IntKind.wrap .i64 (8 * (i : Int)) = ((8 * i : Nat) : Int) := by rw [w64 _ (by omega)]; omega
    have e2 : IntKind.wrap .i64 (IntKind.wrap .i64 ((k : Int) - 1) - (i : Int)) = ((k - 1 - i : Nat) : Int) := by rw [w64 ((k : Int) - 1) (by omega), w64 _ (by omega)]; omega
    rw [e1, e2]
    refine ifp (by omega) ?_
    refine bnd (idxL_out (by omega)) ?_
    rw [shr64 n (8 * i) (by omega), wu8]
    refine bnd (stB_out hb (by rw [fixP_length]; omega) (Nat.mod_lt _ (by decide))) ?_
    rw [w1 (by omega), ofNat_mod, Nat.pow_mul, show (2 : Nat) ^ 8 = 256 from rfl, fixP_set (by omega)]
    refine (fix_l0 K D j bot hn hk (e := e) m (i + 1) (h.set b (.cells ((fixP n k (i + 1)).map encB) e true 0)) (by omega) (by simp)).trans ?_
    rw [set_set]
theorem nfix_spec {kf : Nat} (hkf : 9 ≤ kf) (D : CallF) (n k : Nat) (h : AHeap) (hk1 : 1 ≤ k) (hk7 : k ≤ 7) (hn : n < 9223372036854775808) :
    ∃ h', num_Fixed kf D (n : Int) (k : Int) h = some ((if n < 256 ^ k then ((⟨⟨fixL n k⟩⟩ : ByteArray), 0) else ((⟨#[]⟩ : ByteArray), 1)), h') ∧ Keeps h h' := by
  simp only [num_Fixed]
  let H := (h.new (.cells ((List.replicate k (0 : UInt8)).map encB) 5 true 0)).set h.next (.cells ((fixL n k).map encB) 5 true 0)
  refine ⟨H, ?_, Chg.beh (Keeps.new h _) (Chg.set (S := fun x => x = h.next) (.inr rfl)) (fun x hx e => by have : x = h.next := e; omega)⟩
  refine jn ?_
  refine ifn (by simp <;> omega) ?_
  refine ifn (by simp <;> omega) ?_
  refine ifn (by simp <;> omega) ?_
  refine ifp (by omega) ?_
  refine jn ?_
  rw [Int.toNat_natCast, zeros_bytes]
  unfold num_Fixed_l0
  have hb : (h.new (.cells ((List.replicate k (0 : UInt8)).map encB) 5 true 0)).get h.next = some (.cells ((fixP n k 0).map encB) 5 true 0) := by rw [fixP_zero]; simp
  generalize hj : (fun (n7 : Int) (bytes8 : Int) (b9 : Slc) (h10 : AHeap) => joinK _ _) = j
  obtain ⟨bot', e2⟩ := iterK_of (α := nfT) (fun _ _ _ _ _ _ => none) (num_Fixed_l0b kf D j) (show k + 1 ≤ kf by omega)
  rw [e2]
  refine (fix_l0 kf D j bot' hn hk7 k 0 _ (by omega) hb).trans ?_
  subst hj
  refine jn ?_
  refine ifp (by simp; omega) ?_
  have e1 : IntKind.wrap .i64 (8 * (k : Int)) = ((8 * k : Nat) : Int) := by rw [w64 _ (by omega)]; omega
  rw [e1]
  refine ifp (by omega) ?_
  rw [shr64 n (8 * k) (by omega), Nat.pow_mul, show (2 : Nat) ^ 8 = 256 from rfl]
  by_cases hlt : n < 256 ^ k
  · rw [if_pos hlt]
    refine ifn (by simp [Nat.div_eq_of_lt hlt]) ?_
    have hg : H.get h.next = some (.cells ((fixL n k).map encB) 5 true 0) := by simp [H]
    have := bytesOf_out (cap := k) (sp := some 0) hg
    rw [fixL_length] at this
    exact bnd this rfl
  · rw [if_neg hlt]
    refine ifp ?_ rfl
    have : 0 < n / 256 ^ k := Nat.div_pos (by omega) (Nat.pow_pos (by decide))
    exact decide_eq_true (by omega)
abbrev rfT := Int → Slc → Int → AHeap → Option ((ByteArray × Int) × AHeap)
theorem rfix_l0 (K : Nat) (D : CallF) (j) (bot : rfT) {n k : Nat} (hn : n < 9223372036854775808) (hk : k ≤ 8) {b cap : Nat} {sp : Option Nat} {e : TypeId} : ∀ (m i : Nat) (h : AHeap), i + m = k → h.get b = some (.cells ((fixP n k i).map encB) e true 0) →
    iterK bot (m + 1) (ref01_Fixed_l0b K D j) ((n / 256 ^ i : Nat) : Int) (⟨some ⟨b, 0, sp⟩, k, cap⟩ : Slc) ((k : Int) - 1 - (i : Int)) h = j (⟨some ⟨b, 0, sp⟩, k, cap⟩ : Slc) (h.set b (.cells ((fixL n k).map encB) e true 0))
  | 0, i, h, hi, hb => by
    obtain rfl : i = k := by omega
    rw [fixP_all] at hb
    rw [iterK_s]; simp only [ref01_Fixed_l0b]
    refine ifn (by simp <;> omega) ?_
    rw [set_self hb]
  | m + 1, i, h, hi, hb => by
    rw [iterK_s]; simp only [ref01_Fixed_l0b]
    refine ifp (by simp; omega) ?_
    have e2 : ((k : Int) - 1 - (i : Int)) = ((k - 1 - i : Nat) : Int) := by omega
    rw [e2]
    refine bnd (idxL_out (by omega)) ?_
    rw [wu8]
    refine bnd (stB_out hb (by rw [fixP_length]; omega) (Nat.mod_lt _ (by decide))) ?_
    have hle : n / 256 ^ i ≤ n := Nat.div_le_self _ _
    have hle2 : n / 256 ^ i / 256 ≤ n / 256 ^ i := Nat.div_le_self _ _
    rw [td256, w64 ((n / 256 ^ i / 256 : Nat) : Int) (by omega), w64 (((k - 1 - i : Nat) : Int) - 1) (by omega), ofNat_mod, fixP_set (by omega)]
    have e3 : n / 256 ^ i / 256 = n / 256 ^ (i + 1) := by rw [Nat.div_div_eq_div_mul, Nat.pow_succ]
    have e4 : (((k - 1 - i : Nat) : Int) - 1) = (k : Int) - 1 - ((i + 1 : Nat) : Int) := by omega
    rw [e3, e4]
    refine (rfix_l0 K D j bot hn hk (e := e) m (i + 1) (h.set b (.cells ((fixP n k (i + 1)).map encB) e true 0)) (by omega) (by simp)).trans ?_
    rw [set_set]
theorem must_spec {kf : Nat} (hkf : 9 ≤ kf) (D : CallF) (n k : Nat) (h : AHeap) (hk1 : 1 ≤ k) (hk7 : k ≤ 7) (hn : n < 9223372036854775808) (hlt : n < 256 ^ k) :
    ∃ h', ref01_Must kf D (n : Int) (k : Int) h = some ((⟨⟨fixL n k⟩⟩ : ByteArray), h') ∧ Keeps h h' := by
  simp only [ref01_Must]
  let H := (h.new (.cells ((List.replicate k (0 : UInt8)).map encB) 5 true 0)).set h.next (.cells ((fixL n k).map encB) 5 true 0)
  refine ⟨H, bnd (v := (((⟨⟨fixL n k⟩⟩ : ByteArray), 0), H)) ?_ rfl, Chg.beh (Keeps.new h _) (Chg.set (S := fun x => x = h.next) (.inr rfl)) (fun x hx e => by have : x = h.next := e; omega)⟩
  simp only [ref01_Fixed]
  refine jn ?_
  refine ifn (by simp <;> omega) ?_
  refine ifn (by simp <;> omega) ?_
  refine ifn (by simp <;> omega) ?_
  refine ifp (by simp; omega) ?_
  have e1 : IntKind.wrap .i64 (8 * (k : Int)) = ((8 * k : Nat) : Int) := by rw [w64 _ (by omega)]; omega
  rw [e1]
  refine ifp (by omega) ?_
  rw [shr64 n (8 * k) (by omega), Nat.pow_mul, show (2 : Nat) ^ 8 = 256 from rfl]
  refine ifn (by simp [Nat.div_eq_of_lt hlt]) ?_
  refine ifp (by omega) ?_
  refine jn ?_
  rw [Int.toNat_natCast, zeros_bytes]
  unfold ref01_Fixed_l0
  have hb : (h.new (.cells ((List.replicate k (0 : UInt8)).map encB) 5 true 0)).get h.next = some (.cells ((fixP n k 0).map encB) 5 true 0) := by rw [fixP_zero]; simp
  generalize hj : (fun (b7 : Slc) (h8 : AHeap) => (bytesOf h8 b7).bind _) = j
  obtain ⟨bot', e2⟩ := iterK_of (α := rfT) (fun _ _ _ _ => none) (ref01_Fixed_l0b kf D j) (show k + 1 ≤ kf by omega)
  rw [e2, w64 ((k : Int) - 1) (by omega)]
  have := rfix_l0 kf D j bot' (n := n) (k := k) hn (by omega) (b := h.next) (cap := k) (sp := some 0) (e := 5) k 0 _ (by omega) hb
  simp only [Nat.pow_zero, Nat.div_one, Int.natCast_zero, Int.sub_zero] at this
  refine this.trans ?_
  subst hj
  have hg : H.get h.next = some (.cells ((fixL n k).map encB) 5 true 0) := by simp [H]
  have := bytesOf_out (cap := k) (sp := some 0) hg
  rw [fixL_length] at this
  exact bnd this rfl
end Gz
namespace Gz
open Go Gx Go.Proofs
theorem num_step {a i n : Nat} (h : a < 256 ^ i) (hi : i < n) (hn : n ≤ 7) : a * 256 + 256 ≤ 72057594037927936 := by
  have h1 : 256 ^ i ≤ 256 ^ 6 := Nat.pow_le_pow_right (by decide) (by omega)
  have : (256 : Nat) ^ 6 = 281474976710656 := by decide
  omega
theorem num_step2 {a i : Nat} {c : UInt8} (h : a < 256 ^ i) : a * 256 + c.toNat < 256 ^ (i + 1) := by
  have hc : c.toNat < 256 := UInt8.toNat_lt c
  rw [Nat.pow_succ]; omega
abbrev nuT := ByteArray → Int → Int → AHeap → Option ((Int) × AHeap)
theorem num_l0 (K : Nat) (D : CallF) (j) (bot : nuT) (s : ByteArray) (h : AHeap) (hs : s.size ≤ 7) : ∀ (m i a : Nat), i + m = s.size → a < 256 ^ i →
    iterK bot (m + 1) (ref01_Num_l0b K D j) s (a : Int) (i : Int) h = j ((numL a ((bl s).drop i) : Nat) : Int) h
  | 0, i, a, hi, ha => by
    obtain rfl : i = s.size := by omega
    rw [iterK_s]; simp only [ref01_Num_l0b]
    refine ifn (by simp) ?_
    rw [List.drop_eq_nil_of_le (by rw [bl_length]; omega)]; rfl
  | m + 1, i, a, hi, ha => by
    rw [iterK_s]; simp only [ref01_Num_l0b]
    refine ifp (by simp; omega) ?_
    obtain ⟨x, hx⟩ := isome (l := bl s) (i := i) (by rw [bl_length]; omega)
    refine bnd (idxS_of hx) ?_
    have hx' : x.toNat < 256 := UInt8.toNat_lt x
    have hb := num_step ha (show i < s.size by omega) hs
    have e1 : IntKind.wrap .i64 (IntKind.wrap .i64 ((a : Int) * 256) + IntKind.wrap .i64 (x.toNat : Int)) = ((a * 256 + x.toNat : Nat) : Int) := by
      rw [w64 ((a : Int) * 256) (by omega), w64 (x.toNat : Int) (by omega), w64 _ (by omega)]; omega
    rw [e1, w1 (by omega), dropc hx]
    exact num_l0 K D j bot s h hs m (i + 1) _ (by omega) (num_step2 ha)
theorem rnum_spec {kf : Nat} (hkf : 9 ≤ kf) (D : CallF) (s : ByteArray) (h : AHeap) (hs : s.size ≤ 7) : ref01_Num kf D s h = some (((numL 0 (bl s) : Nat) : Int), h) := by
  simp only [ref01_Num]
  refine jn ?_
  unfold ref01_Num_l0
  obtain ⟨bot', e2⟩ := iterK_of (α := nuT) (fun _ _ _ _ => none) (ref01_Num_l0b kf D fun (n1 : Int) (h2 : AHeap) => some (n1, h2)) (show s.size + 1 ≤ kf by omega)
  rw [e2]
  have := num_l0 kf D (fun (n1 : Int) (h2 : AHeap) => some (n1, h2)) bot' s h hs s.size 0 0 (by omega) (by decide)
  refine this.trans ?_
  rw [List.drop_zero]
def Rdr (h : AHeap) (b : Nat) (s : ByteArray) (e : Int) : Prop := h.get b = some (.cells [.string s, .int .i64 e] 115 true 0)
theorem Rdr.chg {S : Nat → Prop} {h h' : AHeap} {b : Nat} {s : ByteArray} {e : Int} (R : Rdr h b s e) (c : Chg S h h') (hb : ¬ S b) (hl : b < h.next) : Rdr h' b s e := (c.oth b hl hb).trans R
def OnlyB (b : Nat) : Nat → Prop := fun x => x = b
end Gz
namespace Gz
open Go Gx Go.Proofs
abbrev Sh := Int × Int × Int × Int × ByteArray × ByteArray
def shC (x : Sh) : List Value := [.int .i64 x.1, .int .i64 x.2.1, .int .i64 x.2.2.1, .int .i64 x.2.2.2.1, .string x.2.2.2.2.1, .string x.2.2.2.2.2]
def chkA (x : Sh) : Int :=
  if x.1 < 1 then 60 else if x.2.1 < 0 then 60 else if x.1 > 255 then 60 else if x.2.1 > 255 - x.1 then 60 else if x.2.2.1 < 0 then 60 else if x.2.2.1 ≥ x.1 + x.2.1 then 60 else
  if x.2.2.2.1 < 0 then 60 else if x.2.2.2.1 > 65536 then 60 else if (x.2.2.2.2.1.size : Int) ≠ 32 then 60 else if (x.2.2.2.2.2.size : Int) ≠ Int.tdiv (x.2.2.2.1 + x.1 - 1) x.1 then 60 else 0
theorem sh_get (x : Sh) (h : AHeap) (t : TypeId) : (h.new (.cells (shC x) t true 0)).get h.next = some (.cells (shC x) t true 0) := by simp
theorem chk_facts {x : Sh} (h : chkA x = 0) : (1 ≤ x.1 ∧ x.1 ≤ 255) ∧ (0 ≤ x.2.1 ∧ x.2.1 ≤ 255 - x.1) ∧ (0 ≤ x.2.2.1 ∧ x.2.2.1 < x.1 + x.2.1) ∧ (0 ≤ x.2.2.2.1 ∧ x.2.2.2.1 ≤ 65536) ∧ x.2.2.2.2.1.size = 32 ∧ (x.2.2.2.2.2.size : Int) = Int.tdiv (x.2.2.2.1 + x.1 - 1) x.1 := by
  unfold chkA at h
  by_cases c1 : x.1 < 1
  · simp [c1] at h
  by_cases c2 : x.2.1 < 0
  · simp [c1, c2] at h
  by_cases c3 : x.1 > 255
  · simp [c1, c2, c3] at h
  by_cases c4 : x.2.1 > 255 - x.1
  · simp [c1, c2, c3, c4] at h
  by_cases c5 : x.2.2.1 < 0
  · simp [c1, c2, c3, c4, c5] at h
  by_cases c6 : x.2.2.1 ≥ x.1 + x.2.1
  · simp [c1, c2, c3, c4, c5, c6] at h
  by_cases c7 : x.2.2.2.1 < 0
  · simp [c1, c2, c3, c4, c5, c6, c7] at h
  by_cases c8 : x.2.2.2.1 > 65536
  · simp [c1, c2, c3, c4, c5, c6, c7, c8] at h
  by_cases c9 : (x.2.2.2.2.1.size : Int) = 32
  · by_cases c10 : (x.2.2.2.2.2.size : Int) = Int.tdiv (x.2.2.2.1 + x.1 - 1) x.1
    · refine ⟨by omega, by omega, by omega, by omega, by omega, c10⟩
    · simp [c1, c2, c3, c4, c5, c6, c7, c8, c9, c10] at h
  · simp [c1, c2, c3, c4, c5, c6, c7, c8, c9] at h
theorem chk_size {x : Sh} (h : chkA x = 0) : x.2.2.2.2.2.size ≤ 66000 := by
  obtain ⟨c1, c2, c3, c4, c5, c6⟩ := chk_facts h
  have q2 : Int.tdiv (x.2.2.2.1 + x.1 - 1) x.1 ≤ x.2.2.2.1 + x.1 - 1 := by
    rw [Int.tdiv_eq_ediv_of_nonneg (by omega)]; exact Int.ediv_le_self _ (by omega)
  omega
def headL (x : Sh) : List UInt8 := [71, 82, 84, 1] ++ [UInt8.ofNat x.1.toNat, UInt8.ofNat x.2.1.toNat, UInt8.ofNat x.2.2.1.toNat] ++ fixL x.2.2.2.1.toNat 4 ++ bl x.2.2.2.2.1 ++ bl x.2.2.2.2.2
def sumL (n : Nat) : List UInt8 := [UInt8.ofNat n, UInt8.ofNat (n / 256), UInt8.ofNat (n / 65536), UInt8.ofNat (n / 16777216)]
def textL (x : Sh) : List UInt8 := headL x ++ sumL (crc (headL x))
theorem headL_length (x : Sh) : (headL x).length = 11 + x.2.2.2.2.1.size + x.2.2.2.2.2.size := by
  simp only [headL, List.length_append, fixL_length, bl_length, List.length_cons, List.length_nil]
theorem ba_app (a b : List UInt8) : (⟨⟨a⟩⟩ : ByteArray) ++ (⟨⟨b⟩⟩ : ByteArray) = ⟨⟨a ++ b⟩⟩ := by
  apply bl_inj
  simp [bl]
theorem ba_app' (a : List UInt8) (s : ByteArray) : (⟨⟨a⟩⟩ : ByteArray) ++ s = ⟨⟨a ++ bl s⟩⟩ := ba_app a (bl s)
theorem wu8i {n : Int} (h : 0 ≤ n) : IntKind.wrap .u8 n = (((UInt8.ofNat n.toNat).toNat : Nat) : Int) := by
  rw [Go.IntKind.wrap_u8, toNat_ofNat]; omega
theorem sum_cells (n : Nat) (hn : n < 4294967296) : [Value.int .u8 (IntKind.wrap .u8 (n : Int)), .int .u8 (IntKind.wrap .u8 (Int.fdiv (n : Int) 256)), .int .u8 (IntKind.wrap .u8 (Int.fdiv (n : Int) 65536)), .int .u8 (IntKind.wrap .u8 (Int.fdiv (n : Int) 16777216))] = (sumL n).map encB := by
  have f : ∀ d : Nat, Int.fdiv (n : Int) (d : Int) = ((n / d : Nat) : Int) := fun d => by rw [Int.fdiv_eq_ediv_of_nonneg _ (by omega)]; simp
  have f1 : Int.fdiv (n : Int) 256 = ((n / 256 : Nat) : Int) := f 256
  have f2 : Int.fdiv (n : Int) 65536 = ((n / 65536 : Nat) : Int) := f 65536
  have f3 : Int.fdiv (n : Int) 16777216 = ((n / 16777216 : Nat) : Int) := f 16777216
  have g1 := wu8i (n := (n : Int)) (by omega)
  have g2 := wu8i (n := ((n / 256 : Nat) : Int)) (by omega)
  have g3 := wu8i (n := ((n / 65536 : Nat) : Int)) (by omega)
  have g4 := wu8i (n := ((n / 16777216 : Nat) : Int)) (by omega)
  rw [Int.toNat_natCast] at g1 g2 g3 g4
  simp only [sumL, List.map_cons, List.map_nil, encB, f1, f2, f3, g1, g2, g3, g4]
theorem text_spec {k : Nat} (hk : 70000 ≤ k) (D : CallF) (x : Sh) (h : AHeap) (hc : chkA x = 0) : ∃ h', shard_text k D x h = some ((⟨⟨textL x⟩⟩ : ByteArray), h') ∧ Keeps h h' := by
  obtain ⟨c1, c2, c3, c4, c5, c6⟩ := chk_facts hc
  have c7 := chk_size hc
  simp only [shard_text]
  have hb := sh_get x h 33
  have kn : Keeps h (h.new (.cells (shC x) 33 true 0)) := Keeps.new _ _
  obtain ⟨n, hn⟩ : ∃ n : Nat, x.2.2.2.1 = n := ⟨x.2.2.2.1.toNat, by omega⟩
  obtain ⟨g, r1, kg⟩ := nfix_spec (kf := k) (by omega) D n 4 (h.new (.cells (shC x) 33 true 0)) (by decide) (by decide) (by omega)
  have hpow : n < 256 ^ 4 := by have : (256 : Nat) ^ 4 = 4294967296 := by decide
                                omega
  rw [if_pos hpow] at r1
  have r1' : num_Fixed k D x.2.2.2.1 4 (h.new (.cells (shC x) 33 true 0)) = some (((⟨⟨fixL n 4⟩⟩ : ByteArray), 0), g) := by rw [hn]; exact r1
  have hbg : g.get h.next = some (.cells (shC x) 33 true 0) := (kg.oth h.next (by simp) (fun f => f)).trans hb
  have hlt : h.next < g.next := Nat.lt_of_lt_of_le (by simp) kg.nx
  have e3 : [Value.int .u8 (IntKind.wrap .u8 x.1), .int .u8 (IntKind.wrap .u8 x.2.1), .int .u8 (IntKind.wrap .u8 x.2.2.1)] = [UInt8.ofNat x.1.toNat, UInt8.ofNat x.2.1.toNat, UInt8.ofNat x.2.2.1.toNat].map encB := by
    simp only [List.map_cons, List.map_nil, encB, wu8i (show 0 ≤ x.1 by omega), wu8i (show 0 ≤ x.2.1 by omega), wu8i (show 0 ≤ x.2.2.1 by omega)]
  let g2 := g.new (.cells ([UInt8.ofNat x.1.toNat, UInt8.ofNat x.2.1.toNat, UInt8.ofNat x.2.2.1.toNat].map encB) 5 true 0)
  have kg2 : Keeps g g2 := Keeps.new _ _
  have hb2 : g2.get h.next = some (.cells (shC x) 33 true 0) := (kg2.oth h.next hlt (fun f => f)).trans hbg
  have hbg2 : g2.get g.next = some (.cells ([UInt8.ofNat x.1.toNat, UInt8.ofNat x.2.1.toNat, UInt8.ofNat x.2.2.1.toNat].map encB) 5 true 0) := by simp [g2]
  have hm : (⟨#[71, 82, 84, 1]⟩ : ByteArray) = ⟨⟨[71, 82, 84, 1]⟩⟩ := rfl
  let H := (⟨⟨headL x⟩⟩ : ByteArray)
  have hHs : H.size = 11 + x.2.2.2.2.1.size + x.2.2.2.2.2.size := by show (⟨⟨headL x⟩⟩ : ByteArray).size = _; rw [size_mk, headL_length]
  have rc := crc_spec (k := k) (by omega) D H g2 (by omega) (by omega)
  have hbH : bl H = headL x := rfl
  rw [hbH] at rc
  let g3 := g2.new (.cells (bytesL H) 5 true 0)
  let g4 := g3.new (.cells ((sumL (crc (headL x))).map encB) 5 true 0)
  have hb4 : g4.get g3.next = some (.cells ((sumL (crc (headL x))).map encB) 5 true 0) := by simp [g4]
  refine ⟨g4, ?_, kn.trans (kg.trans (kg2.trans ((Keeps.new _ _).trans (Keeps.new _ _))))⟩
  refine bnd (ldI_at hb rfl) ?_
  refine bnd r1' ?_
  refine bnd (ldI_at hbg rfl) ?_
  refine bnd (ldI_at hbg rfl) ?_
  refine bnd (ldI_at hbg rfl) ?_
  rw [e3]
  refine bnd (bytesOf_out (cap := 3) (sp := some 0) hbg2) ?_
  rw [hm, ba_app, ba_app]
  refine ifp (by simp only [size_mk, List.length_cons, List.length_nil]; decide) ?_
  refine ifp (by simp only [size_mk, List.length_append, List.length_cons, List.length_nil, fixL_length]; decide) ?_
  refine bnd (ldS_at hb2 rfl) ?_
  rw [ba_app']
  refine ifp (by simp only [size_mk, List.length_append, List.length_cons, List.length_nil, fixL_length, c5]; decide) ?_
  refine bnd (ldS_at hb2 rfl) ?_
  rw [ba_app']
  refine ifp (by simp only [size_mk, List.length_append, List.length_cons, List.length_nil, fixL_length, c5, bl_length]; omega) ?_
  have eH : (⟨⟨[71, 82, 84, 1] ++ [UInt8.ofNat x.1.toNat, UInt8.ofNat x.2.1.toNat, UInt8.ofNat x.2.2.1.toNat] ++ fixL n 4 ++ bl x.2.2.2.2.1 ++ bl x.2.2.2.2.2⟩⟩ : ByteArray) = H := by
    show _ = (⟨⟨headL x⟩⟩ : ByteArray)
    unfold headL; rw [hn, Int.toNat_natCast]
  rw [eH]
  refine bnd rc ?_
  rw [sum_cells _ (crc_lt _)]
  refine bnd (bytesOf_out (cap := 4) (sp := some 0) hb4) ?_
  refine ifp (by simp only [size_mk, sumL, List.length_cons, List.length_nil]; omega) ?_
  show some ((⟨⟨headL x⟩⟩ : ByteArray) ++ (⟨⟨sumL (crc (headL x))⟩⟩ : ByteArray), g4) = _
  rw [ba_app]; rfl
end Gz
namespace Gz
open Go Gx Go.Proofs
theorem sw1 {H1 : AHeap} {F : AHeap → Option Value} {v : Value} (h : F H1 = some v) : SameW [H1] F v := by
  intro H hH; simp only [List.mem_singleton] at hH; subst hH; exact h
theorem sw2 {H1 H2 : AHeap} {F : AHeap → Option Value} {v : Value} (h : F H1 = some v) (h' : F H2 = some v) : SameW [H1, H2] F v := by
  intro H hH
  simp only [List.mem_cons, List.not_mem_nil, or_false] at hH
  rcases hH with rfl | rfl
  · exact h
  · exact h'
theorem rtext_spec {k : Nat} (hk : 70000 ≤ k) (D : CallF) (x : Sh) (h : AHeap) (hc : chkA x = 0) : ∃ h', ref06_Text k D x h = some ((⟨⟨textL x⟩⟩ : ByteArray), h') ∧ Keeps h h' := by
  obtain ⟨c1, c2, c3, c4, c5, c6⟩ := chk_facts hc
  have c7 := chk_size hc
  simp only [ref06_Text]
  have kn : Keeps h (h.new (.cells (shC x) 34 true 0)) := Keeps.new _ _
  let h2 := (h.new (.cells (shC x) 34 true 0)).resv 1
  have kr : Keeps h h2 := ⟨by show h.next ≤ h.next + 1 + 1; omega, fun y hy _ => kn.oth y hy (fun f => f)⟩
  have hb : h2.get h.next = some (.cells (shC x) 34 true 0) := sh_get x h 34
  obtain ⟨n, hn⟩ : ∃ n : Nat, x.2.2.2.1 = n := ⟨x.2.2.2.1.toNat, by omega⟩
  have hpow : n < 256 ^ 4 := by have : (256 : Nat) ^ 4 = 4294967296 := by decide
                                omega
  obtain ⟨g, r1, kg⟩ := must_spec (kf := k) (by omega) D n 4 h2 (by decide) (by decide) (by omega) hpow
  have r1' : ref01_Must k D x.2.2.2.1 4 h2 = some ((⟨⟨fixL n 4⟩⟩ : ByteArray), g) := by rw [hn]; exact r1
  have hn2 : h2.next = h.next + 1 + 1 := rfl
  have hbg : g.get h.next = some (.cells (shC x) 34 true 0) := (kg.oth h.next (by omega) (fun f => f)).trans hb
  have hlt : h.next + 1 < g.next := Nat.lt_of_lt_of_le (by omega) kg.nx
  have e3 : [Value.int .u8 (IntKind.wrap .u8 x.1), .int .u8 (IntKind.wrap .u8 x.2.1), .int .u8 (IntKind.wrap .u8 x.2.2.1)] = [UInt8.ofNat x.1.toNat, UInt8.ofNat x.2.1.toNat, UInt8.ofNat x.2.2.1.toNat].map encB := by
    simp only [List.map_cons, List.map_nil, encB, wu8i (show 0 ≤ x.1 by omega), wu8i (show 0 ≤ x.2.1 by omega), wu8i (show 0 ≤ x.2.2.1 by omega)]
  let g2 := g.set (h.next + 1) (.cells ([UInt8.ofNat x.1.toNat, UInt8.ofNat x.2.1.toNat, UInt8.ofNat x.2.2.1.toNat].map encB) 5 true 0)
  have kg2 : Chg (OnlyB (h.next + 1)) g g2 := Chg.set (.inr rfl)
  have hb2 : g2.get h.next = some (.cells (shC x) 34 true 0) := (kg2.oth h.next (by omega) (fun f => by have : h.next = h.next + 1 := f; omega)).trans hbg
  have hbg2 : g2.get (h.next + 1) = some (.cells ([UInt8.ofNat x.1.toNat, UInt8.ofNat x.2.1.toNat, UInt8.ofNat x.2.2.1.toNat].map encB) 5 true 0) := by simp [g2]
  have hm : (⟨#[71, 82, 84, 1]⟩ : ByteArray) = ⟨⟨[71, 82, 84, 1]⟩⟩ := rfl
  let H := (⟨⟨headL x⟩⟩ : ByteArray)
  have hHs : H.size = 11 + x.2.2.2.2.1.size + x.2.2.2.2.2.size := by show (⟨⟨headL x⟩⟩ : ByteArray).size = _; rw [size_mk, headL_length]
  have rc := rcrc_spec (k := k) (by omega) D H g2 (by omega) (by omega)
  have hbH : bl H = headL x := rfl
  rw [hbH] at rc
  let g4 := g2.new (.cells ((sumL (crc (headL x))).map encB) 5 true 0)
  have hb4 : g4.get g2.next = some (.cells ((sumL (crc (headL x))).map encB) 5 true 0) := by simp [g4]
  refine ⟨g4, ?_, (Chg.beh (kr.trans kg) kg2 (fun y hy e => by have : y = h.next + 1 := e; omega)).trans (Keeps.new _ _)⟩
  refine bnd (ldI_at hb rfl) ?_
  refine bnd r1' ?_
  refine bnd (ldI_at hbg rfl) (gp (sw1 (bnd (ldI_at hb rfl) rfl)) ?_)
  refine bnd (ldI_at hbg rfl) (gp (sw1 (bnd (ldI_at hb rfl) rfl)) ?_)
  refine bnd (ldI_at hbg rfl) (gp (sw1 (bnd (ldI_at hb rfl) rfl)) ?_)
  rw [e3]
  refine bnd (bytesOf_out (cap := 3) (sp := some 0) hbg2) ?_
  refine gp ⟨_, hbg2, fun H hH => bnd (bytesOf_out (cap := 3) (sp := some 0) hH) rfl⟩ ?_
  rw [hm, ba_app, ba_app]
  refine ifp (by simp only [size_mk, List.length_cons, List.length_nil]; decide) ?_
  refine ifp (by simp only [size_mk, List.length_append, List.length_cons, List.length_nil, fixL_length]; decide) ?_
  refine bnd (ldS_at hb2 rfl) (gp (sw2 (bnd (ldS_at hbg rfl) rfl) (bnd (ldS_at hb rfl) rfl)) ?_)
  rw [ba_app']
  refine ifp (by simp only [size_mk, List.length_append, List.length_cons, List.length_nil, fixL_length, c5]; decide) ?_
  refine bnd (ldS_at hb2 rfl) (gp (sw2 (bnd (ldS_at hbg rfl) rfl) (bnd (ldS_at hb rfl) rfl)) ?_)
  rw [ba_app']
  refine ifp (by simp only [size_mk, List.length_append, List.length_cons, List.length_nil, fixL_length, c5, bl_length]; omega) ?_
  have eH : (⟨⟨[71, 82, 84, 1] ++ [UInt8.ofNat x.1.toNat, UInt8.ofNat x.2.1.toNat, UInt8.ofNat x.2.2.1.toNat] ++ fixL n 4 ++ bl x.2.2.2.2.1 ++ bl x.2.2.2.2.2⟩⟩ : ByteArray) = H := by
    show _ = (⟨⟨headL x⟩⟩ : ByteArray)
    unfold headL; rw [hn, Int.toNat_natCast]
  rw [eH]
  refine bnd rc ?_
  rw [sum_cells _ (crc_lt _)]
  refine bnd (bytesOf_out (cap := 4) (sp := some 0) hb4) ?_
  refine ifp (by simp only [size_mk, sumL, List.length_cons, List.length_nil]; omega) ?_
  show some ((⟨⟨headL x⟩⟩ : ByteArray) ++ (⟨⟨sumL (crc (headL x))⟩⟩ : ByteArray), g4) = _
  rw [ba_app]; rfl
def encA (x : Sh) : ByteArray × Int := if chkA x = 0 then (⟨⟨textL x⟩⟩, 0) else (⟨#[]⟩, chkA x)
theorem eqSh (x : Sh) : ((x.1 == x.1) && ((x.2.1 == x.2.1) && ((x.2.2.1 == x.2.2.1) && ((x.2.2.2.1 == x.2.2.2.1) && ((x.2.2.2.2.1 == x.2.2.2.2.1) && (x.2.2.2.2.2 == x.2.2.2.2.2)))))) = true := by simp [ba_beq]
end Gz
namespace Gz
open Go Gx Go.Proofs
def prs (s : ByteArray) : Sh :=
  (((numL 0 (((bl s).drop 4).take 1) : Nat) : Int), ((numL 0 (((bl s).drop 5).take 1) : Nat) : Int), ((numL 0 (((bl s).drop 6).take 1) : Nat) : Int), ((numL 0 (((bl s).drop 7).take 4) : Nat) : Int), ⟨⟨((bl s).drop 11).take 32⟩⟩, ⟨⟨((bl s).drop 43).take (s.size - 47)⟩⟩)
def okS (s : ByteArray) : Bool := decide (47 ≤ s.size) && (decide (chkA (prs s) = 0) && decide (textL (prs s) = bl s))
end Gz
namespace Gz
open Go Gx Go.Proofs
end Gz
namespace Gz
open Go Gx Go.Proofs
theorem enc_dec {s : ByteArray} (h : okS s = true) : encA (prs s) = (s, 0) := by
  unfold okS at h
  simp only [Bool.and_eq_true, decide_eq_true_eq] at h
  unfold encA
  rw [if_pos h.2.1, h.2.2]; rfl
end Gz
namespace Gz
open Go Gx Go.Proofs
end Gz
namespace Gz
open Go Gx
def dbl (x : Nat) : Nat := if 2 * x ≥ 256 then (2 * x) ^^^ 391 else 2 * x
def exL : List Nat := [1, 2, 4, 8, 16, 32, 64, 128, 135, 137, 149, 173, 221, 61, 122, 244, 111, 222, 59, 118, 236, 95, 190, 251, 113, 226, 67, 134, 139, 145, 165, 205, 29, 58, 116, 232, 87, 174, 219, 49, 98, 196, 15, 30, 60, 120, 240, 103, 206, 27, 54, 108, 216, 55, 110, 220, 63, 126, 252, 127, 254, 123, 246, 107, 214, 43, 86, 172, 223, 57, 114, 228, 79, 158, 187, 241, 101, 202, 19, 38, 76, 152, 183, 233, 85, 170, 211, 33, 66, 132, 143, 153, 181, 237, 93, 186, 243, 97, 194, 3, 6, 12, 24, 48, 96, 192, 7, 14, 28, 56, 112, 224, 71, 142, 155, 177, 229, 77, 154, 179, 225, 69, 138, 147, 161, 197, 13, 26, 52, 104, 208, 39, 78, 156, 191, 249, 117, 234, 83, 166, 203, 17, 34, 68, 136, 151, 169, 213, 45, 90, 180, 239, 89, 178, 227, 65, 130, 131, 129, 133, 141, 157, 189, 253, 125, 250, 115, 230, 75, 150, 171, 209, 37, 74, 148, 175, 217, 53, 106, 212, 47, 94, 188, 255, 121, 242, 99, 198, 11, 22, 44, 88, 176, 231, 73, 146, 163, 193, 5, 10, 20, 40, 80, 160, 199, 9, 18, 36, 72, 144, 167, 201, 21, 42, 84, 168, 215, 41, 82, 164, 207, 25, 50, 100, 200, 23, 46, 92, 184, 247, 105, 210, 35, 70, 140, 159, 185, 245, 109, 218, 51, 102, 204, 31, 62, 124, 248, 119, 238, 91, 182, 235, 81, 162, 195]
def lgL : List Nat := [0, 0, 1, 99, 2, 198, 100, 106, 3, 205, 199, 188, 101, 126, 107, 42, 4, 141, 206, 78, 200, 212, 189, 225, 102, 221, 127, 49, 108, 32, 43, 243, 5, 87, 142, 232, 207, 172, 79, 131, 201, 217, 213, 65, 190, 148, 226, 180, 103, 39, 222, 240, 128, 177, 50, 53, 109, 69, 33, 18, 44, 13, 244, 56, 6, 155, 88, 26, 143, 121, 233, 112, 208, 194, 173, 168, 80, 117, 132, 72, 202, 252, 218, 138, 214, 84, 66, 36, 191, 152, 149, 249, 227, 94, 181, 21, 104, 97, 40, 186, 223, 76, 241, 47, 129, 230, 178, 63, 51, 238, 54, 16, 110, 24, 70, 166, 34, 136, 19, 247, 45, 184, 14, 61, 245, 164, 57, 59, 7, 158, 156, 157, 89, 159, 27, 8, 144, 9, 122, 28, 234, 160, 113, 90, 209, 29, 195, 123, 174, 10, 169, 145, 81, 91, 118, 114, 133, 161, 73, 235, 203, 124, 253, 196, 219, 30, 139, 210, 215, 146, 85, 170, 67, 11, 37, 175, 192, 115, 153, 119, 150, 92, 250, 82, 228, 236, 95, 74, 182, 162, 22, 134, 105, 197, 98, 254, 41, 125, 187, 204, 224, 211, 77, 140, 242, 31, 48, 220, 130, 171, 231, 86, 179, 147, 64, 216, 52, 176, 239, 38, 55, 12, 17, 68, 111, 120, 25, 154, 71, 116, 167, 193, 35, 83, 137, 251, 20, 93, 248, 151, 46, 75, 185, 96, 15, 237, 62, 229, 246, 135, 165, 23, 58, 163, 60, 183]
def ex (i : Nat) : Nat := exL.getD i 0
def lg (a : Nat) : Nat := lgL.getD a 0
theorem ex_zero : ex 0 = 1 := rfl
theorem ex_lt : ∀ i, i < 255 → 1 ≤ ex i ∧ ex i < 256 := by decide +kernel
theorem ex_succ : ∀ i, i < 254 → dbl (ex i) = ex (i + 1) := by decide +kernel
theorem ex_last : dbl (ex 254) = 1 := by decide +kernel
theorem lg_ex : ∀ i, i < 255 → lg (ex i) = i := by decide +kernel
theorem ex_lg : ∀ a, a < 256 → 1 ≤ a → ex (lg a) = a := by decide +kernel
theorem lg_lt : ∀ a, a < 256 → lg a < 255 := by decide +kernel
theorem dbl_lt : ∀ a, a < 256 → dbl a < 256 := by decide +kernel
theorem ex_inj {i j : Nat} (hi : i < 255) (hj : j < 255) (h : ex i = ex j) : i = j := by
  rw [← lg_ex i hi, ← lg_ex j hj, h]
def mulT (a b : Nat) : Nat := if a = 0 ∨ b = 0 then 0 else ex ((lg a + lg b) % 255)
theorem dI (k : Nat) (D : CallF) (h : AHeap) : ∀ x : Nat, x < 256 → field_double k D (x : Int) h = some ((dbl x : Int), h) := by
  have key : ∀ x : Nat, x < 256 → (if (decide ((IntKind.wrap .i64 ((x : Int) * 2)) ≥ 256)) = true then Go.bits .xor .i64 (IntKind.wrap .i64 ((x : Int) * 2)) 391 else IntKind.wrap .i64 ((x : Int) * 2)) = (dbl x : Int) := by decide +kernel
  intro x hx
  have := key x hx
  unfold field_double joinK
  split <;> rename_i hc
  · rw [if_pos hc] at this; rw [this]
  · rw [if_neg hc] at this; rw [this]
theorem st1_of {h : AHeap} {b o : Nat} {sp : Option Nat} {c : List Value} {e : TypeId} {v : Value} (hb : h.get b = some (.cells c e true 0)) (ho : o < c.length) (hv : one v = true) : st1 ⟨b, o, sp⟩ v h = some (h.set b (.cells (c.set o v) e true 0)) := by
  simp [st1, AHeap.wr1, hb, ho, hv]
theorem ldI_of {h : AHeap} {b o : Nat} {sp : Option Nat} {c : List Value} {e : TypeId} {rw' : Bool} {fz : Nat} {k : IntKind} {x : Int} (hb : h.get b = some (.cells c e rw' fz)) (ho : c[o]? = some (.int k x)) : ldI k ⟨b, o, sp⟩ h = some x := by
  simp [ldI, AHeap.rd1, hb, ho, decI]
theorem set_set (h : AHeap) (b : Nat) (B C : ABlk) : (h.set b B).set b C = h.set b C := by
  simp only [AHeap.set, AHeap.mk.injEq, true_and]
  funext x
  by_cases e : x = b <;> simp [e]
theorem set_self {h : AHeap} {b : Nat} {B : ABlk} (hb : h.get b = some B) : h.set b B = h := by
  obtain ⟨n, g⟩ := h
  simp only [AHeap.set, AHeap.mk.injEq, true_and] at hb ⊢
  funext x
  by_cases e : x = b
  · simp [e, hb]
  · simp [e]
def fresh : List Value := [.int .u32 0] ++ [.int .i32 0] ++ [.int .u32 0] ++ List.replicate 510 (.int .u8 0) ++ List.replicate 256 (.int .i64 0)
structure Part (i : Nat) (c : List Value) : Prop where
  len : c.length = 769
  lo : ∀ j, j < i → c[3 + j]? = some (.int .u8 (ex j : Int))
  hi : ∀ j, j < i → c[258 + j]? = some (.int .u8 (ex j : Int))
  lg : ∀ j, j < i → c[513 + ex j]? = some (.int .i64 (j : Int))
  lz : c[513]? = some (.int .i64 0)
  done : c[0]? = some (.int .u32 0)
  mu : c[1]? = some (.int .i32 1)
theorem part_step {i : Nat} {c : List Value} (hi : i < 255) (p : Part i c) :
    Part (i + 1) (((c.set (3 + i) (.int .u8 (ex i : Int))).set (258 + i) (.int .u8 (ex i : Int))).set (513 + ex i) (.int .i64 (i : Int))) := by
  obtain ⟨e1, e2⟩ := ex_lt i hi
  have len := p.len
  refine ⟨by simp [len], fun j hj => ?_, fun j hj => ?_, fun j hj => ?_, ?_, ?_, ?_⟩
  · by_cases hji : j = i
    · subst hji
      rw [List.getElem?_set_ne (by omega), List.getElem?_set_ne (by omega), List.getElem?_set_self (by omega)]
    · rw [List.getElem?_set_ne (by omega), List.getElem?_set_ne (by omega), List.getElem?_set_ne (by omega)]
      exact p.lo j (by omega)
  · by_cases hji : j = i
    · subst hji
      rw [List.getElem?_set_ne (by omega), List.getElem?_set_self (by simp; omega)]
    · rw [List.getElem?_set_ne (by omega), List.getElem?_set_ne (by omega), List.getElem?_set_ne (by omega)]
      exact p.hi j (by omega)
  · by_cases hji : j = i
    · subst hji
      rw [List.getElem?_set_self (by simp; omega)]
    · have : ex j ≠ ex i := fun e => hji (ex_inj (by omega) hi e)
      rw [List.getElem?_set_ne (by omega), List.getElem?_set_ne (by omega), List.getElem?_set_ne (by omega)]
      exact p.lg j (by omega)
  · rw [List.getElem?_set_ne (by omega), List.getElem?_set_ne (by omega), List.getElem?_set_ne (by omega)]; exact p.lz
  · rw [List.getElem?_set_ne (by omega), List.getElem?_set_ne (by omega), List.getElem?_set_ne (by omega)]; exact p.done
  · rw [List.getElem?_set_ne (by omega), List.getElem?_set_ne (by omega), List.getElem?_set_ne (by omega)]; exact p.mu
theorem w64 (x : Int) (h : -9223372036854775808 ≤ x ∧ x ≤ 9223372036854775807) : IntKind.wrap .i64 x = x := by
  rw [IntKind.wrap_i64]; omega
theorem w8 (x : Int) (h : 0 ≤ x ∧ x < 256) : IntKind.wrap .u8 x = x := by
  rw [IntKind.wrap_u8]; omega
theorem idxA_of {n size b o : Nat} {sp : Option Nat} {i : Int} (h : 0 ≤ i ∧ i < n) : idxA n size ⟨b, o, sp⟩ i = some ⟨b, o + i.toNat * size, none⟩ := by
  unfold idxA; rw [if_pos h]
end Gz
namespace Gz
open Go Gx
theorem st1_set {h : AHeap} {b o : Nat} {sp : Option Nat} {c : List Value} {e : TypeId} {v : Value} (ho : o < c.length) (hv : one v = true) : st1 ⟨b, o, sp⟩ v (h.set b (.cells c e true 0)) = some (h.set b (.cells (c.set o v) e true 0)) := by
  rw [st1_of (c := c) (e := e) (by simp) ho hv, set_set]
theorem make_loop (K : Nat) (D : CallF) (b : Nat) (e : TypeId) (bot) : ∀ (m i : Nat) (c : List Value) (h : AHeap), i + m = 255 → h.get b = some (.cells c e true 0) → Part i c →
    ∃ c', Part 255 c' ∧ iterK bot (m + 1) (field_Field_make_l0b K D) (some ⟨b, 0, none⟩) ((if i = 255 then 1 else ex i : Nat) : Int) (i : Int) h = some ((), h.set b (.cells c' e true 0))
  | 0, i, c, h, hi, hb, p => by
    have : i = 255 := by omega
    subst this
    refine ⟨c, p, ?_⟩
    simp only [iterK, field_Field_make_l0b]
    rw [if_neg (by simp), set_self hb]
  | m + 1, i, c, h, hi, hb, p => by
    have hlt : i < 255 := by omega
    obtain ⟨e1, e2⟩ := ex_lt i hlt
    have len := p.len
    have hi0 : ((i : Int).toNat) = i := by simp
    have q := part_step hlt p
    obtain ⟨c', p', hr⟩ := make_loop K D b e bot m (i + 1) _ (h.set b (.cells (((c.set (3 + i) (.int .u8 (ex i : Int))).set (258 + i) (.int .u8 (ex i : Int))).set (513 + ex i) (.int .i64 (i : Int))) e true 0)) (by omega) (by simp) q
    refine ⟨c', p', ?_⟩
    rw [iterK, field_Field_make_l0b]
    have hne : ¬ i = 255 := by omega
    rw [if_pos (by simp; omega), if_neg hne]
    simp only [Option.bind_some]
    rw [idxA_of (by omega)]
    simp only [Option.bind_some, hi0]
    rw [w8 _ (by omega), st1_of hb (by omega) rfl]
    simp only [Option.bind_some]
    rw [w64 _ (by omega), idxA_of (by omega)]
    simp only [Option.bind_some]
    rw [show ((i : Int) + 255).toNat = i + 255 from by omega, st1_set (by simp; omega) rfl]
    simp only [Option.bind_some]
    rw [idxA_of (by omega)]
    simp only [Option.bind_some]
    rw [show ((ex i : Int)).toNat = ex i from by simp, st1_set (by simp; omega) rfl]
    simp only [Option.bind_some]
    rw [dI _ _ _ _ e2]
    simp only [Option.bind_some]
    rw [w64 _ (by omega)]
    have hx : (dbl (ex i) : Int) = ((if i + 1 = 255 then 1 else ex (i + 1) : Nat) : Int) := by
      split
      · rename_i h1
        have : i = 254 := by omega
        subst this; rw [ex_last]
      · rw [ex_succ i (by omega)]
    rw [hx]
    have h3 : 0 + 3 + 0 + i * 1 = 3 + i := by omega
    have h4 : 0 + 3 + 0 + (i + 255) * 1 = 258 + i := by omega
    have h5 : 0 + 3 + 510 + ex i * 1 = 513 + ex i := by omega
    rw [h3, h4, h5]
    rw [set_set] at hr
    exact_mod_cast hr
end Gz
namespace Gz
open Go Gx Go.Proofs
noncomputable def DD (k : Nat) : CallF := mkC noC [e_field_Field_make k noC]
theorem DD_sound (k : Nat) : CSound Tryz.prog 2 (DD k) := mkC_sound noC_sound (EntsOk.more (ok_field_Field_make noC_sound k) EntsOk.none)
structure Made (c : List Value) : Prop where
  len : c.length = 769
  lo : ∀ j, j < 255 → c[3 + j]? = some (.int .u8 (ex j : Int))
  hi : ∀ j, j < 255 → c[258 + j]? = some (.int .u8 (ex j : Int))
  lg : ∀ j, j < 255 → c[513 + ex j]? = some (.int .i64 (j : Int))
  lz : c[513]? = some (.int .i64 0)
  done : c[0]? = some (.int .u32 1)
def Fld (h : AHeap) (b : Nat) : Prop := ∃ c, h.get b = some (.cells c 143 true 0) ∧ (c = fresh ∨ Made c)
theorem fresh_part : Part 0 (fresh.set 1 (.int .i32 1)) where
  len := by kernel_rfl
  lo := fun j h => absurd h (Nat.not_lt_zero j)
  hi := fun j h => absurd h (Nat.not_lt_zero j)
  lg := fun j h => absurd h (Nat.not_lt_zero j)
  lz := by kernel_rfl
  done := rfl
  mu := rfl
theorem made_of {c : List Value} (p : Part 255 c) : Made ((c.set 0 (.int .u32 1)).set 1 (.int .i32 0)) where
  len := by simp [p.len]
  lo := fun j h => by rw [List.getElem?_set_ne (by omega), List.getElem?_set_ne (by omega)]; exact p.lo j h
  hi := fun j h => by rw [List.getElem?_set_ne (by omega), List.getElem?_set_ne (by omega)]; exact p.hi j h
  lg := fun j h => by rw [List.getElem?_set_ne (by omega), List.getElem?_set_ne (by omega)]; exact p.lg j h
  lz := by rw [List.getElem?_set_ne (by omega), List.getElem?_set_ne (by omega)]; exact p.lz
  done := by rw [List.getElem?_set_ne (by omega), List.getElem?_set_self (by rw [p.len]; omega)]
theorem lock_spec (k : Nat) (D : CallF) {h : AHeap} {b o : Nat} {c : List Value} {e : TypeId} (hb : h.get b = some (.cells c e true 0)) (ho : c[o]? = some (.int .i32 0)) :
    sync_Mutex_Lock k D (some ⟨b, o, none⟩) h = some ((), h.set b (.cells (c.set o (.int .i32 1)) e true 0)) := by
  have hlt : o < c.length := (List.getElem?_eq_some_iff.1 ho).1
  simp only [sync_Mutex_Lock, internal_sync_Mutex_Lock, Option.bind_some, Nat.add_zero]
  rw [ldI_of hb ho]
  simp only [Option.bind_some, if_true]
  rw [st1_of hb hlt rfl]
  simp [AHeap.rd1, hlt]
theorem unlock_spec (k : Nat) (D : CallF) {h : AHeap} {b o : Nat} {c : List Value} {e : TypeId} (hb : h.get b = some (.cells c e true 0)) (ho : c[o]? = some (.int .i32 1)) :
    sync_Mutex_Unlock k D (some ⟨b, o, none⟩) h = some ((), h.set b (.cells (c.set o (.int .i32 0)) e true 0)) := by
  have hlt : o < c.length := (List.getElem?_eq_some_iff.1 ho).1
  simp only [sync_Mutex_Unlock, internal_sync_Mutex_Unlock, joinK, Option.bind_some, Nat.add_zero]
  rw [ldI_of hb ho]
  have hr : AHeap.rd1 h b o = some (.int .i32 1) := by simp [AHeap.rd1, hb, ho]
  simp only [Option.bind_some, hr]
  have hw : IntKind.wrap .i32 (1 + -1) = 0 := by decide
  rw [hw, st1_of hb hlt rfl]
  simp
theorem store_spec (k : Nat) (D : CallF) {h : AHeap} {b o : Nat} {c : List Value} {e : TypeId} {x : Int} (hb : h.get b = some (.cells c e true 0)) (ho : c[o]? = some (.int .u32 x)) :
    sync_atomic_Bool_Store k D (some ⟨b, o, none⟩) true h = some ((), h.set b (.cells (c.set o (.int .u32 1)) e true 0)) := by
  have hlt : o < c.length := (List.getElem?_eq_some_iff.1 ho).1
  simp only [sync_atomic_Bool_Store, sync_atomic_b32, Option.bind_some, Nat.add_zero, if_true]
  rw [ldI_of hb ho]
  simp only [Option.bind_some]
  rw [st1_of hb hlt rfl]
  rfl
theorem iterK_add {α : Type} (bot : α) (b : α → α) (n : Nat) : ∀ m, iterK bot (m + n) b = iterK (iterK bot n b) m b
  | 0 => by rw [Nat.zero_add]; rfl
  | m + 1 => by rw [Nat.succ_add]; simp only [iterK]; rw [iterK_add bot b n m]
theorem tables_spec {k : Nat} (hk : 256 ≤ k) {h : AHeap} {b : Nat} (hf : Fld h b) :
    ∃ c', Made c' ∧ field_Field_tables k (DD k) (some ⟨b, 0, none⟩) h = some (some ⟨b, 3, none⟩, h.set b (.cells c' 143 true 0)) := by
  obtain ⟨c, hb, rfl | hm⟩ := hf
  · -- not yet
    obtain ⟨k', rfl⟩ : ∃ k', k = 255 + 1 + k' := ⟨k - 256, by omega⟩
    have hf0 : fresh[0]? = some (.int .u32 0) := rfl
    have hf1 : fresh[1]? = some (.int .i32 0) := rfl
    have hb1 : (h.set b (.cells (fresh.set 1 (.int .i32 1)) 143 true 0)).get b = some (.cells (fresh.set 1 (.int .i32 1)) 143 true 0) := by simp
    obtain ⟨c', p', hm⟩ := make_loop (255 + 1 + k') noC b 143 (iterK (fun _ _ _ _ => none) k' (field_Field_make_l0b (255 + 1 + k') noC)) 255 0 _ (h.set b (.cells (fresh.set 1 (.int .i32 1)) 143 true 0)) (by omega) hb1 fresh_part
    have hmk : field_Field_make (255 + 1 + k') noC (some ⟨b, 0, none⟩) (h.set b (.cells (fresh.set 1 (.int .i32 1)) 143 true 0)) = some ((), h.set b (.cells c' 143 true 0)) := by
      rw [set_set] at hm
      rw [field_Field_make, field_Field_make_l0, ← hm, iterK_add]
      rfl
    have l0 := p'.done
    have l1 := p'.mu
    refine ⟨_, made_of p', ?_⟩
    simp only [field_Field_tables, sync_Once_Do, sync_atomic_Bool_Load, Option.bind_some, Nat.add_zero]
    rw [ldI_of hb hf0]
    simp only [Option.bind_some, bne_self_eq_false, Bool.not_false, if_true, sync_Once_doSlow, sync_atomic_Bool_Load, Nat.zero_add, Nat.add_zero]
    rw [lock_spec _ _ hb hf1]
    simp only [Option.bind_some]
    rw [ldI_of (x := 0) (k := .u32) hb1 rfl]
    simp only [Option.bind_some, bne_self_eq_false, Bool.not_false, if_true]
    have hcall : ∀ {R : Type} (κ : Value → AHeap → Option R), callD (C_sync_Once_doSlow (255 + 1 + k') (DD (255 + 1 + k'))) (.func (.func 108) ⟨[.pointer (some ⟨b, 0, none⟩)]⟩ ⟨[]⟩) [] (h.set b (.cells (fresh.set 1 (.int .i32 1)) 143 true 0)) κ = κ (.tuple ⟨[]⟩) (h.set b (.cells c' 143 true 0)) := by
      intro R κ
      show (field_Field_make (255 + 1 + k') noC (some ⟨b, 0, none⟩) (h.set b (.cells (fresh.set 1 (.int .i32 1)) 143 true 0))).bind _ = _
      rw [hmk]
      rfl
    rw [hcall]
    rw [store_spec _ _ (c := c') (e := 143) (by simp) l0, set_set]
    simp only [Option.bind_some]
    have h1' : (c'.set 0 (.int .u32 1))[1]? = some (.int .i32 1) := by rw [List.getElem?_set_ne (by omega)]; exact l1
    rw [unlock_spec _ _ (c := c'.set 0 (.int .u32 1)) (e := 143) (by simp) h1', set_set]
    rfl
  · refine ⟨c, hm, ?_⟩
    simp only [field_Field_tables, sync_Once_Do, sync_atomic_Bool_Load, Option.bind_some, Nat.add_zero]
    rw [ldI_of hb hm.done]
    simp [set_self hb]
end Gz
namespace Gz
open Go Gx Go.Proofs
def inR (x : Int) : Bool := !(decide (x < 0) || decide (x ≥ 256))
theorem inR_nat {x : Nat} (h : x < 256) : inR (x : Int) = true := by
  simp [inR]; omega
theorem inR_iff {x : Int} : inR x = true ↔ ∃ n : Nat, x = n ∧ n < 256 := by
  simp [inR]
  constructor
  · rintro ⟨h1, h2⟩; exact ⟨x.toNat, by omega, by omega⟩
  · rintro ⟨n, rfl, h⟩; omega
theorem idxL_of {size b o len cap : Nat} {sp : Option Nat} {i : Int} (h : 0 ≤ i ∧ i < len) : idxL size ⟨some ⟨b, o, sp⟩, len, cap⟩ i = some ⟨b, o + i.toNat * size, none⟩ := by
  simp only [idxL]; rw [if_pos h]
theorem is_loop (K : Nat) (D : CallF) (n : Nat) (sp : Option Nat) (cap : Nat) (j2 : AHeap → Option (Bool × AHeap)) (bot) (xs : List Int) (e : TypeId) (rw' : Bool) (fz : Nat) (h : AHeap) (hsm : xs.length < 9223372036854775807)
    (hb : h.get n = some (.cells (xs.map fun x => .int .i64 x) e rw' fz)) : ∀ (m i : Nat), i + m = xs.length →
    iterK bot (m + 1) (field_is_l0b K D j2) ⟨some ⟨n, 0, sp⟩, xs.length, cap⟩ (xs.length : Int) (i : Int) h = if (xs.drop i).all inR = true then j2 h else some (false, h)
  | 0, i, hi => by
    have : xs.length ≤ i := by omega
    rw [iterK, field_is_l0b, if_neg (by simp; omega), List.drop_eq_nil_of_le this]
    simp
  | m + 1, i, hi => by
    have hlt : i < xs.length := by omega
    rw [iterK, field_is_l0b, if_pos (by simp; omega), idxL_of (by omega)]
    simp only [Option.bind_some]
    have hx : (xs.map fun x => Value.int .i64 x)[0 + (i : Int).toNat * 1]? = some (.int .i64 xs[i]) := by simp [hlt]
    rw [ldI_of hb hx]
    simp only [Option.bind_some, joinK]
    have ih := is_loop K D n sp cap j2 bot xs e rw' fz h hsm hb m (i + 1) (by omega)
    rw [w64 _ (by omega)]
    have hi1 : ((i : Int) + 1) = ((i + 1 : Nat) : Int) := by omega
    rw [hi1, ih]
    rw [List.drop_eq_getElem_cons hlt]
    simp only [List.all_cons, inR]
    by_cases c1 : xs[i] < 0
    · simp [c1]
    · by_cases c2 : xs[i] ≥ 256
      · simp [c1, c2]
      · simp [c1, c2, inR]
theorem is_spec {k : Nat} (D : CallF) {n : Nat} {sp : Option Nat} {cap : Nat} {xs : List Int} {e : TypeId} {rw' : Bool} {fz : Nat} {h : AHeap} (hk : xs.length < k) (hsm : xs.length < 9223372036854775807)
    (hb : h.get n = some (.cells (xs.map fun x => .int .i64 x) e rw' fz)) : field_is k D ⟨some ⟨n, 0, sp⟩, xs.length, cap⟩ h = some (xs.all inR, h) := by
  obtain ⟨k', rfl⟩ : ∃ k', k = xs.length + 1 + k' := ⟨k - (xs.length + 1), by omega⟩
  rw [field_is, joinK, field_is_l0, iterK_add]
  have := is_loop (xs.length + 1 + k') D n sp cap (fun h1 => some (true, h1)) (iterK (fun _ _ _ _ => none) k' (field_is_l0b (xs.length + 1 + k') D fun h1 => some (true, h1))) xs e rw' fz h hsm hb xs.length 0 (by omega)
  rw [List.drop_zero] at this
  refine this.trans ?_
  cases xs.all inR <;> rfl
structure FS (b : Nat) (h h' : AHeap) : Prop where
  nx : h.next ≤ h'.next
  oth : ∀ x, x < h.next → x ≠ b → h'.get x = h.get x
  fld : Fld h' b
theorem FS.trans {b : Nat} {h h1 h2 : AHeap} (a : FS b h h1) (c : FS b h1 h2) : FS b h h2 :=
  ⟨Nat.le_trans a.nx c.nx, fun x hx hb => (c.oth x (Nat.lt_of_lt_of_le hx a.nx) hb).trans (a.oth x hx hb), c.fld⟩
theorem FS.new {b : Nat} {h : AHeap} (hf : Fld h b) (hb : b < h.next) (B : ABlk) : FS b h (h.new B) :=
  ⟨by simp, fun x hx _ => by simp; omega, by
    obtain ⟨c, h1, h2⟩ := hf
    exact ⟨c, by simp; rw [if_neg (by omega)]; exact h1, h2⟩⟩
theorem FS.made {b : Nat} {h : AHeap} {c : List Value} (hm : Made c) : FS b h (h.set b (.cells c 143 true 0)) :=
  ⟨by simp, fun x hx hb => by simp [hb], ⟨c, by simp, .inr hm⟩⟩
theorem FS.refl {b : Nat} {h : AHeap} (hf : Fld h b) : FS b h h := ⟨Nat.le_refl _, fun _ _ _ => rfl, hf⟩
theorem log_at {h : AHeap} {b : Nat} {c : List Value} (hb : h.get b = some (.cells c 143 true 0)) (hm : Made c) {a : Nat} (ha : a < 256) {sp : Option Nat} : ldI .i64 ⟨b, 513 + a, sp⟩ h = some (lg a : Int) := by
  by_cases h0 : a = 0
  · subst h0; rw [ldI_of hb hm.lz]; rfl
  · have h1 := ex_lg a ha (by omega)
    have := hm.lg (lg a) (lg_lt a ha)
    rw [h1] at this
    exact ldI_of hb this
theorem exp_at {h : AHeap} {b : Nat} {c : List Value} (hb : h.get b = some (.cells c 143 true 0)) (hm : Made c) {j : Nat} (hj : j < 510) {sp : Option Nat} : ldI .u8 ⟨b, 3 + j, sp⟩ h = some (ex (j % 255) : Int) := by
  by_cases h1 : j < 255
  · rw [Nat.mod_eq_of_lt h1]; exact ldI_of hb (hm.lo j h1)
  · have := hm.hi (j - 255) (by omega)
    rw [show 258 + (j - 255) = 3 + j from by omega] at this
    rw [show j % 255 = j - 255 from by omega]
    exact ldI_of hb this
theorem times_spec (k : Nat) (D : CallF) {h : AHeap} {b : Nat} {c : List Value} (hb : h.get b = some (.cells c 143 true 0)) (hm : Made c) {x y : Nat} (hx : x < 256) (hy : y < 256) :
    field_tables_times k D (some ⟨b, 3, none⟩) x y h = some ((mulT x y : Int), h) := by
  unfold field_tables_times joinK mulT
  by_cases h0 : x = 0
  · subst h0; simp
  · by_cases h1 : y = 0
    · subst h1; simp [h0]
    · have e0 : ((x : Int) == 0) = false := by simp; omega
      have e1 : ((y : Int) == 0) = false := by simp; omega
      have l1 := lg_lt x hx
      have l2 := lg_lt y hy
      rw [e0, e1]
      simp only [Bool.false_eq_true, if_false, Option.bind_some]
      rw [idxA_of (by omega), idxA_of (by omega)]
      simp only [Option.bind_some]
      have a1 : 3 + 510 + (x : Int).toNat * 1 = 513 + x := by omega
      have a2 : 3 + 510 + (y : Int).toNat * 1 = 513 + y := by omega
      rw [a1, a2, log_at hb hm hx, log_at hb hm hy]
      simp only [Option.bind_some]
      rw [w64 _ (by omega), idxA_of (by omega)]
      simp only [Option.bind_some]
      have a3 : 3 + 0 + ((lg x : Int) + (lg y : Int)).toNat * 1 = 3 + (lg x + lg y) := by omega
      rw [a3, exp_at hb hm (by omega)]
      have := (ex_lt ((lg x + lg y) % 255) (Nat.mod_lt _ (by omega))).2
      simp only [Option.bind_some]
      rw [w64 _ (by omega)]
      simp [h0, h1]
theorem is2 {k : Nat} (hk : 256 ≤ k) (D : CallF) (h : AHeap) (x y : Int) (t : TypeId) : field_is k D (⟨some ⟨h.next, 0, some 0⟩, 2, 2⟩ : Slc) (AHeap.new h (.cells [.int .i64 x, .int .i64 y] t true 0)) = some (inR x && inR y, AHeap.new h (.cells [.int .i64 x, .int .i64 y] t true 0)) := by
  have := is_spec (k := k) D (n := h.next) (sp := some 0) (cap := 2) (xs := [x, y]) (e := t) (rw' := true) (fz := 0) (h := AHeap.new h (.cells [.int .i64 x, .int .i64 y] t true 0)) (by simp; omega) (by simp) (by simp)
  simpa using this
end Gz
namespace Gz
open Go Gx Go.Proofs
structure Ext (h h' : AHeap) : Prop where
  nx : h.next ≤ h'.next
  oth : ∀ x, x < h.next → h'.get x = h.get x
theorem Ext.trans {h h1 h2 : AHeap} (a : Ext h h1) (c : Ext h1 h2) : Ext h h2 :=
  ⟨Nat.le_trans a.nx c.nx, fun x hx => (c.oth x (Nat.lt_of_lt_of_le hx a.nx)).trans (a.oth x hx)⟩
theorem Ext.new (h : AHeap) (B : ABlk) : Ext h (h.new B) := ⟨by simp, fun x hx => by simp; omega⟩
theorem Ext.fs {h h1 h2 : AHeap} {b : Nat} (a : Ext h h1) (c : FS b h1 h2) (hb : h.next ≤ b) : Ext h h2 :=
  ⟨Nat.le_trans a.nx c.nx, fun x hx => (c.oth x (Nat.lt_of_lt_of_le hx a.nx) (by omega)).trans (a.oth x hx)⟩
theorem new_spec (k : Nat) (D : CallF) (h : AHeap) : field_New k D h = some (some ⟨h.next, 0, none⟩, h.new (.cells fresh 143 true 0)) := rfl
theorem fld_new (h : AHeap) : Fld (h.new (.cells fresh 143 true 0)) h.next := ⟨fresh, by simp, .inl rfl⟩
end Gz
namespace Gz
open Go Gx Go.Proofs
theorem mulT_ex {i j : Nat} (hi : i < 255) (hj : j < 255) : mulT (ex i) (ex j) = ex ((i + j) % 255) := by
  have a := (ex_lt i hi).1
  have b := (ex_lt j hj).1
  unfold mulT
  rw [if_neg (by omega), lg_ex i hi, lg_ex j hj]
theorem mulT_lt (x y : Nat) : mulT x y < 256 := by
  unfold mulT
  split
  · omega
  · exact (ex_lt _ (Nat.mod_lt _ (by omega))).2
theorem mulT_ne {x y : Nat} (hx : x ≠ 0) (hy : y ≠ 0) : mulT x y ≠ 0 := by
  unfold mulT
  rw [if_neg (by omega)]
  have := (ex_lt ((lg x + lg y) % 255) (Nat.mod_lt _ (by omega))).1
  omega
theorem lg_mulT {x y : Nat} (hx : x ≠ 0) (hy : y ≠ 0) : lg (mulT x y) = (lg x + lg y) % 255 := by
  unfold mulT
  rw [if_neg (by omega), lg_ex _ (Nat.mod_lt _ (by omega))]
theorem bnd {α β : Type} {x : Option α} {f : α → Option β} {v : α} {r : Option β} (h : x = some v) (k : f v = r) : x.bind f = r := by rw [h]; exact k
theorem jn {α R : Type} {j : α} {b : α → R} {r : R} (k : b j = r) : joinK j b = r := k
theorem ifp {α : Type} {c : Prop} [Decidable c] {a b r : α} (h : c) (k : a = r) : (if c then a else b) = r := by rw [if_pos h]; exact k
theorem ifn {α : Type} {c : Prop} [Decidable c] {a b r : α} (h : ¬ c) (k : b = r) : (if c then a else b) = r := by rw [if_neg h]; exact k
theorem gp {R : Type} {p : Prop} {x r : Option R} (h : p) (k : x = r) : guardP p x = r := by rw [guardP_true h]; exact k
end Gz
namespace Gz
open Go Gx Go.Proofs
theorem dbl_bit : ∀ b, b < 256 → dbl b = (b * 2 ^ 1) ^^^ (if b.testBit 7 then 391 else 0) := by decide +kernel
theorem xlc (a b c : Nat) : a ^^^ (b ^^^ c) = b ^^^ (a ^^^ c) := by rw [← Nat.xor_assoc, Nat.xor_comm a b, Nat.xor_assoc]
theorem mul_xor (a b i : Nat) : (a ^^^ b) * 2 ^ i = (a * 2 ^ i) ^^^ (b * 2 ^ i) := by
  rw [← Nat.shiftLeft_eq, ← Nat.shiftLeft_eq, ← Nat.shiftLeft_eq, Nat.shiftLeft_xor_distrib]
theorem dbl_xor (b : Nat) (hb : b < 256) (c : Nat) (hc : c < 256) : dbl (b ^^^ c) = dbl b ^^^ dbl c := by
  rw [dbl_bit b hb, dbl_bit c hc, dbl_bit _ (Nat.xor_lt_two_pow (n := 8) hb hc), mul_xor, Nat.testBit_xor]
  cases b.testBit 7 <;> cases c.testBit 7 <;> simp [Nat.xor_assoc, Nat.xor_comm, xlc]
theorem xor_lt {b c : Nat} (hb : b < 256) (hc : c < 256) : b ^^^ c < 256 := Nat.xor_lt_two_pow (n := 8) hb hc
def dp : Nat → Nat → Nat
  | 0, b => b
  | n + 1, b => dbl (dp n b)
theorem dp_lt (n : Nat) {b : Nat} (hb : b < 256) : dp n b < 256 := by
  induction n with
  | zero => exact hb
  | succ n ih => exact dbl_lt _ ih
theorem dp_xor (n : Nat) {b c : Nat} (hb : b < 256) (hc : c < 256) : dp n (b ^^^ c) = dp n b ^^^ dp n c := by
  induction n with
  | zero => rfl
  | succ n ih => simp only [dp]; rw [ih, dbl_xor _ (dp_lt n hb) _ (dp_lt n hc)]
theorem dp_zero (n : Nat) : dp n 0 = 0 := by
  induction n with
  | zero => rfl
  | succ n ih => simp only [dp]; rw [ih]; rfl
theorem dp_ex (n : Nat) {j : Nat} (hj : j < 255) : dp n (ex j) = ex ((j + n) % 255) := by
  induction n with
  | zero => simp only [dp, Nat.add_zero]; rw [Nat.mod_eq_of_lt hj]
  | succ n ih =>
    simp only [dp]; rw [ih]
    have hm : (j + n) % 255 < 255 := Nat.mod_lt _ (by omega)
    by_cases h : (j + n) % 255 = 254
    · rw [h, ex_last]
      have : (j + (n + 1)) % 255 = 0 := by omega
      rw [this]; rfl
    · rw [ex_succ _ (by omega)]
      congr 1; omega
theorem mulT_dp {a b : Nat} (ha : a ≠ 0) (hb : b < 256) : mulT a b = dp (lg a) b := by
  unfold mulT
  by_cases h : b = 0
  · subst h; rw [dp_zero]; simp
  · rw [if_neg (by omega)]
    have := dp_ex (lg a) (lg_lt b hb)
    rw [ex_lg b hb (by omega)] at this
    rw [this, Nat.add_comm]
theorem mulT_zero (b : Nat) : mulT 0 b = 0 := by simp [mulT]
theorem mulT_comm (a b : Nat) : mulT a b = mulT b a := by
  unfold mulT
  by_cases h : a = 0 <;> by_cases h' : b = 0 <;> simp [h, h', Nat.add_comm]
theorem mulT_xor {a b c : Nat} (hb : b < 256) (hc : c < 256) : mulT a (b ^^^ c) = mulT a b ^^^ mulT a c := by
  by_cases h : a = 0
  · subst h; simp [mulT_zero]
  · rw [mulT_dp h (xor_lt hb hc), mulT_dp h hb, mulT_dp h hc, dp_xor _ hb hc]
theorem mulT_assoc {a b c : Nat} : mulT (mulT a b) c = mulT a (mulT b c) := by
  by_cases h : a = 0
  · subst h; simp [mulT_zero]
  · by_cases h' : b = 0
    · subst h'; simp [mulT]
    · by_cases h'' : c = 0
      · subst h''; simp [mulT_comm _ 0, mulT_zero]
      · have e1 : mulT a b = ex ((lg a + lg b) % 255) := by unfold mulT; rw [if_neg (by omega)]
        have e2 : mulT b c = ex ((lg b + lg c) % 255) := by unfold mulT; rw [if_neg (by omega)]
        have n1 := mulT_ne h h'
        have n2 := mulT_ne h' h''
        unfold mulT at n1 n2 ⊢
        rw [if_neg (show ¬ (a = 0 ∨ b = 0) by omega)] at n1 ⊢
        rw [if_neg (show ¬ (b = 0 ∨ c = 0) by omega)] at n2 ⊢
        rw [if_neg (by omega), if_neg (by omega), lg_ex _ (Nat.mod_lt _ (by omega)), lg_ex _ (Nat.mod_lt _ (by omega))]
        congr 1; omega
theorem mulT_one {a : Nat} (ha : a < 256) : mulT a 1 = a := by
  by_cases h : a = 0
  · subst h; rfl
  · rw [mulT_dp h (by omega)]
    have := dp_ex (lg a) (j := 0) (by omega)
    rw [ex_zero, Nat.zero_add, Nat.mod_eq_of_lt (lg_lt a ha), ex_lg a ha (by omega)] at this
    exact this
end Gz
namespace Gz
open Go Gx Go.Proofs
def divT (a b : Nat) : Nat := if a = 0 then 0 else ex ((lg a + 255 - lg b) % 255)
theorem div_spec {k : Nat} (hk : 256 ≤ k) {h : AHeap} {b : Nat} (hf : Fld h b) (hb : b < h.next) {x y : Nat} (hx : x < 256) (hy : y < 256) :
    ∃ h', field_Field_Div k (DD k) (some ⟨b, 0, none⟩) x y h = some (((if y = 0 then (0, 30) else ((divT x y : Nat), 0)) : Int × Int), h') ∧ FS b h h' := by
  have f1 := FS.new hf hb (.cells [.int .i64 (x : Int), .int .i64 (y : Int)] 3 true 0)
  simp only [field_Field_Div]
  rw [is2 hk, inR_nat hx, inR_nat hy]
  simp only [Option.bind_some, Bool.and_self, Bool.not_true, Bool.false_eq_true, if_false]
  by_cases y0 : y = 0
  · subst y0
    exact ⟨_, rfl, f1⟩
  · have e1 : ((y : Int) == 0) = false := by simp; omega
    simp only [e1, Bool.false_eq_true, if_false, y0]
    unfold divT
    by_cases x0 : x = 0
    · subst x0
      exact ⟨_, rfl, f1⟩
    · have e0 : ((x : Int) == 0) = false := by simp; omega
      simp only [e0, Bool.false_eq_true, if_false, x0]
      obtain ⟨c, hm, ht⟩ := tables_spec hk f1.fld
      refine ⟨_, ?_, f1.trans (.made hm)⟩
      rw [ht]
      simp only [Option.bind_some]
      have l1 := lg_lt x hx
      have l2 := lg_lt y hy
      rw [idxA_of (by omega), idxA_of (by omega)]
      simp only [Option.bind_some]
      have a1 : 3 + 510 + (x : Int).toNat * 1 = 513 + x := by omega
      have a2 : 3 + 510 + (y : Int).toNat * 1 = 513 + y := by omega
      rw [a1, a2, log_at (c := c) (by simp) hm hx, log_at (c := c) (by simp) hm hy]
      simp only [Option.bind_some]
      rw [w64 ((lg x : Int) + 255) (by omega), w64 _ (by omega), idxA_of (by omega)]
      simp only [Option.bind_some]
      have a3 : 3 + 0 + ((lg x : Int) + 255 - (lg y : Int)).toNat * 1 = 3 + (lg x + 255 - lg y) := by omega
      rw [a3, exp_at (c := c) (by simp) hm (by omega)]
      have := (ex_lt ((lg x + 255 - lg y) % 255) (Nat.mod_lt _ (by omega))).2
      simp only [Option.bind_some]
      rw [w64 _ (by omega)]
theorem mul_div {x y : Nat} (hx : x < 256) (hy : y < 256) (y0 : y ≠ 0) : mulT (divT x y) y = x := by
  unfold divT
  by_cases x0 : x = 0
  · subst x0; simp [mulT_zero]
  · simp only [x0, if_false]
    have l1 := lg_lt x hx
    have l2 := lg_lt y hy
    have hy' := ex_lg y hy (by omega)
    have hx' := ex_lg x hx (by omega)
    have := mulT_ex (i := (lg x + 255 - lg y) % 255) (j := lg y) (Nat.mod_lt _ (by omega)) l2
    rw [hy'] at this
    rw [this]
    have e : ((lg x + 255 - lg y) % 255 + lg y) % 255 = lg x := by omega
    rw [e, hx']
theorem divT_lt {x y : Nat} : divT x y < 256 := by
  unfold divT
  split
  · omega
  · exact (ex_lt _ (Nat.mod_lt _ (by omega))).2
end Gz
namespace Gz
open Go Gx Go.Proofs
def rdS (i n : Nat) : Nat := if n.testBit i then n ^^^ (391 * 2 ^ (i - 8)) else n
def redN (n : Nat) : Nat := rdS 8 (rdS 9 (rdS 10 (rdS 11 (rdS 12 (rdS 13 (rdS 14 (rdS 15 n)))))))
theorem rdS_xor (i n m : Nat) : rdS i (n ^^^ m) = rdS i n ^^^ rdS i m := by
  unfold rdS
  rw [Nat.testBit_xor]
  cases n.testBit i <;> cases m.testBit i <;> simp [Nat.xor_assoc, Nat.xor_comm, xlc]
theorem redN_xor (n m : Nat) : redN (n ^^^ m) = redN n ^^^ redN m := by simp only [redN, rdS_xor]
theorem red_bit : ∀ i, i < 8 → ∀ a, a < 256 → redN (a * 2 ^ i) = mulT a (2 ^ i) := by decide +kernel
theorem bit_mod : ∀ i, i < 8 → ∀ b, b < 256 → b % 2 ^ (i + 1) = if b.testBit i then (b % 2 ^ i) ^^^ 2 ^ i else b % 2 ^ i := by decide +kernel
theorem rdS_lt {i n : Nat} (hi : i < 16) (h : n < 65536) : rdS i n < 65536 := by
  unfold rdS
  split
  · refine Nat.xor_lt_two_pow (n := 16) h ?_
    have : 2 ^ (i - 8) ≤ 2 ^ 7 := Nat.pow_le_pow_right (by decide) (by omega)
    omega
  · exact h
theorem times_l0_step (K : Nat) (D : CallF) (j) (bot) {i n : Nat} (hi : i < 16) (h8 : 8 ≤ i) (hn : n < 65536) (h : AHeap) (m : Nat) :
    iterK bot (m + 1) (ref03_Times_l0b K D j) (n : Int) (i : Int) h = iterK bot m (ref03_Times_l0b K D j) (rdS i n : Nat) ((i : Int) - 1) h := by
  rw [iterK, ref03_Times_l0b, if_pos (by simp; omega), joinK, if_pos (by omega)]
  rw [bit64 (by omega) (by omega)]
  dsimp only
  have w1 : IntKind.wrap .i64 ((i : Int) - 8) = ((i - 8 : Nat) : Int) := by rw [w64 _ (by omega)]; omega
  have w2 : IntKind.wrap .i64 ((i : Int) - 1) = (i : Int) - 1 := w64 _ (by omega)
  rw [w1, w2]
  have hp : 2 ^ (i - 8) ≤ 2 ^ 7 := Nat.pow_le_pow_right (by decide) (by omega)
  have hs := shl64 (a := 391) (i := i - 8) (by omega) (by omega)
  rw [show ((391 : Nat) : Int) = 391 from rfl] at hs
  rw [hs]
  simp only [rdS]
  by_cases c : n.testBit i = true
  · simp only [c, if_true]
    rw [if_pos (by simp), if_pos (by omega), xor64 (by omega) (by omega)]
  · rw [Bool.not_eq_true] at c
    simp only [c, Bool.false_eq_true, if_false]
    rw [if_neg (by simp)]
theorem times_l0 {K : Nat} (D : CallF) (j) (h : AHeap) (hK : 9 ≤ K) {n : Nat} (hn : n < 65536) : ref03_Times_l0 K D j (n : Int) 15 h = j (redN n : Nat) h := by
  obtain ⟨k', rfl⟩ : ∃ k', K = 8 + 1 + k' := ⟨K - 9, by omega⟩
  rw [ref03_Times_l0, iterK_add]
  have a1 := rdS_lt (i := 15) (by omega) hn
  have a2 := rdS_lt (i := 14) (by omega) a1
  have a3 := rdS_lt (i := 13) (by omega) a2
  have a4 := rdS_lt (i := 12) (by omega) a3
  have a5 := rdS_lt (i := 11) (by omega) a4
  have a6 := rdS_lt (i := 10) (by omega) a5
  have a7 := rdS_lt (i := 9) (by omega) a6
  refine (times_l0_step _ D j _ (i := 15) (by omega) (by omega) hn h 8).trans ?_
  refine (times_l0_step _ D j _ (i := 14) (by omega) (by omega) a1 h 7).trans ?_
  refine (times_l0_step _ D j _ (i := 13) (by omega) (by omega) a2 h 6).trans ?_
  refine (times_l0_step _ D j _ (i := 12) (by omega) (by omega) a3 h 5).trans ?_
  refine (times_l0_step _ D j _ (i := 11) (by omega) (by omega) a4 h 4).trans ?_
  refine (times_l0_step _ D j _ (i := 10) (by omega) (by omega) a5 h 3).trans ?_
  refine (times_l0_step _ D j _ (i := 9) (by omega) (by omega) a6 h 2).trans ?_
  refine (times_l0_step _ D j _ (i := 8) (by omega) (by omega) a7 h 1).trans ?_
  rw [iterK, ref03_Times_l0b, if_neg (by simp)]
  rfl
theorem times_l1 (K : Nat) (D : CallF) (j) (bot) {a b : Nat} (ha : a < 256) (hb : b < 256) (h : AHeap) : ∀ (m i n : Nat), i + m = 8 → n < 65536 → redN n = mulT a (b % 2 ^ i) →
    ∃ n', n' < 65536 ∧ redN n' = mulT a b ∧ iterK bot (m + 1) (ref03_Times_l1b K D j) (a : Int) (b : Int) (n : Int) (i : Int) h = j (n' : Nat) h
  | 0, i, n, hi, hn, hr => by
    obtain rfl : i = 8 := by omega
    refine ⟨n, hn, ?_, ?_⟩
    · rw [hr, Nat.mod_eq_of_lt hb]
    · rw [iterK, ref03_Times_l1b, if_neg (by simp)]
  | m + 1, i, n, hi, hn, hr => by
    have hp : 2 ^ i ≤ 2 ^ 7 := Nat.pow_le_pow_right (by decide) (by omega)
    have hlt : a * 2 ^ i < 65536 := Nat.lt_of_le_of_lt (Nat.mul_le_mul (Nat.le_of_lt ha) hp) (by omega)
    have hb1 := bit_mod i (by omega) b hb
    rw [iterK, ref03_Times_l1b, if_pos (by simp; omega), joinK, if_pos (by omega), bit64 (by omega) (by omega)]
    dsimp only
    have w1 : IntKind.wrap .i64 ((i : Int) + 1) = ((i + 1 : Nat) : Int) := by rw [w64 _ (by omega)]; omega
    rw [w1, shl64 (by omega) (by omega)]
    by_cases c : b.testBit i = true
    · simp only [c, if_true] at hb1 ⊢
      have hx : n ^^^ (a * 2 ^ i) < 65536 := Nat.xor_lt_two_pow (n := 16) hn hlt
      obtain ⟨n', h1, h2, h3⟩ := times_l1 K D j bot ha hb h m (i + 1) (n ^^^ (a * 2 ^ i)) (by omega) hx (by
        have q : b % 2 ^ i < 256 := Nat.lt_of_le_of_lt (Nat.mod_le _ _) hb
        rw [redN_xor, hr, red_bit i (by omega) a ha, hb1, mulT_xor q (by omega)])
      refine ⟨n', h1, h2, ?_⟩
      rw [if_pos (by simp), if_pos (by omega), xor64 (by omega) (by omega)]
      exact h3
    · rw [Bool.not_eq_true] at c
      simp only [c, Bool.false_eq_true, if_false] at hb1 ⊢
      obtain ⟨n', h1, h2, h3⟩ := times_l1 K D j bot ha hb h m (i + 1) n (by omega) hn (by rw [hr, hb1])
      refine ⟨n', h1, h2, ?_⟩
      rw [if_neg (by simp)]
      exact h3
theorem rtimes_spec {k : Nat} (hk : 9 ≤ k) (D : CallF) {a b : Nat} (ha : a < 256) (hb : b < 256) (h : AHeap) : ref03_Times k D (a : Int) (b : Int) h = some ((mulT a b : Int), h) := by
  unfold ref03_Times joinK ref03_Times_l1
  obtain ⟨k', hk'⟩ : ∃ k', k = 8 + 1 + k' := ⟨k - 9, by omega⟩
  obtain ⟨n', h1, h2, h3⟩ := times_l1 k D (fun n1 h2 => ref03_Times_l0 k D (fun n4 h5 => some (n4, h5)) n1 15 h2) (iterK (fun _ _ _ _ _ => none) k' (ref03_Times_l1b k D (fun n1 h2 => ref03_Times_l0 k D (fun n4 h5 => some (n4, h5)) n1 15 h2))) ha hb h 8 0 0 (by omega) (by omega) (by simp [Nat.mod_one, mulT_comm a 0, mulT_zero]; decide)
  have e := h3
  rw [← iterK_add, ← hk'] at e
  refine e.trans ?_
  rw [times_l0 D _ h hk h1, h2]
end Gz
namespace Gz
open Go Gx Go.Proofs
theorem ris_spec (k : Nat) (D : CallF) (x : Int) (h : AHeap) : ref03_is k D x h = some (inR x, h) := by
  unfold ref03_is inR
  by_cases h1 : x < 0
  · simp [h1, show ¬ (0 ≤ x) by omega]
  · simp only [h1, show (x ≥ 0) by omega, decide_false, decide_true, if_true, Bool.false_or]
    by_cases h2 : x < 256
    · simp [h2, show ¬ 256 ≤ x by omega]
    · simp [h2, show 256 ≤ x by omega]
theorem div_mul {q b : Nat} (hq : q < 256) (hb : b < 256) (b0 : b ≠ 0) : divT (mulT q b) b = q := by
  by_cases q0 : q = 0
  · subst q0; rw [mulT_zero]; rfl
  · unfold divT
    rw [if_neg (mulT_ne q0 b0), lg_mulT q0 b0]
    have l1 := lg_lt q hq
    have l2 := lg_lt b hb
    have : ((lg q + lg b) % 255 + 255 - lg b) % 255 = lg q := by omega
    rw [this, ex_lg q hq (by omega)]
theorem over_loop (K : Nat) (hK : 9 ≤ K) (D : CallF) (j) (bot) {a b : Nat} (ha : a < 256) (hb : b < 256) (b0 : b ≠ 0) (h : AHeap) : ∀ (m q : Nat), q + m = divT a b →
    iterK bot (m + 1) (ref03_Over_l0b K D j) (a : Int) (b : Int) (q : Int) h = some ((divT a b : Int), h)
  | 0, q, hq => by
    obtain rfl : q = divT a b := by omega
    rw [iterK, ref03_Over_l0b, if_pos (by have := divT_lt (x := a) (y := b); simp; omega), rtimes_spec hK D divT_lt hb, mul_div ha hb b0]
    simp
  | m + 1, q, hq => by
    have hlt := divT_lt (x := a) (y := b)
    rw [iterK, ref03_Over_l0b, if_pos (by simp; omega), rtimes_spec hK D (by omega) hb]
    simp only [Option.bind_some]
    have ne : mulT q b ≠ a := fun e => by
      have := div_mul (q := q) (by omega) hb b0
      rw [e] at this; omega
    rw [if_neg (by simp; omega), w64 _ (by omega)]
    exact over_loop K hK D j bot ha hb b0 h m (q + 1) (by omega)
end Gz
namespace Gz
open Go Gx Go.Proofs
def addL (a b : List UInt8) : List UInt8 := List.zipWith (· ^^^ ·) a b
def scaleL (c : Nat) (l : List UInt8) : List UInt8 := l.map fun x => UInt8.ofNat (mulT x.toNat c)
def addA (a b : ByteArray) : ByteArray × Int := if a.size = b.size then (⟨⟨addL (bl a) (bl b)⟩⟩, 0) else (⟨#[]⟩, 4)
theorem range_zip {a b : List UInt8} (h : a.length = b.length) : (List.range a.length).map (fun i => (a[i]?.getD 0) ^^^ (b[i]?.getD 0)) = addL a b := by
  apply List.ext_getElem?
  intro i
  simp only [addL, List.getElem?_map, List.getElem?_zipWith]
  by_cases hi : i < a.length
  · simp [hi, show i < b.length by omega]
  · simp [hi]
theorem range_map {a : List UInt8} (f : UInt8 → UInt8) : (List.range a.length).map (fun i => f (a[i]?.getD 0)) = a.map f := by
  apply List.ext_getElem?
  intro i
  simp only [List.getElem?_map]
  by_cases hi : i < a.length
  · simp [hi]
  · simp [hi]
theorem xor_u8 (x y : UInt8) : Go.bits .xor .u8 (x.toNat : Int) (y.toNat : Int) = (((x ^^^ y).toNat : Nat) : Int) := by
  rw [xor8 x.toNat_lt y.toNat_lt, UInt8.toNat_xor]
theorem u8_lt (x : UInt8) : x.toNat < 256 := x.toNat_lt
theorem stB {h : AHeap} {b i : Nat} {sp : Option Nat} {l : List UInt8} {e : TypeId} (x : UInt8) (hi : i < l.length) :
    st1 ⟨b, i, sp⟩ (.int .u8 (x.toNat : Int)) (h.set b (outB encB e l)) = some (h.set b (outB encB e (l.set i x))) := by
  rw [stB_out get_out hi (u8_lt x), UInt8.ofNat_toNat]
  exact congrArg some set_out
theorem getD_of {α : Type} {l : List α} {i : Nat} {x d : α} (h : l[i]? = some x) : l[i]?.getD d = x := by rw [h]; rfl
theorem isome {α : Type} {l : List α} {i : Nat} (h : i < l.length) : ∃ x, l[i]? = some x := ⟨l[i], by simp [h]⟩
theorem addL_length {a b : ByteArray} (hab : a.size = b.size) : (addL (bl a) (bl b)).length = a.size := by simp [addL, bl_length, hab]
theorem new_out {S : Nat → Prop} {h : AHeap} {b : Nat} (B C : ABlk) (hb : b = h.next) : Chg S h ((h.new B).set b C) := by
  subst hb
  exact (Chg.new h B).beh (T := fun x => x = h.next) (.set (.inr rfl)) fun x hx e => by omega
theorem radd_loop (k : Nat) (D : CallF) (J : Slc → AHeap → Option ((ByteArray × Int) × AHeap)) (a b : ByteArray) (B : Nat) (sp : Option Nat) (h : AHeap) (hk : a.size < k) (hs : a.size < 9223372036854775807) (hab : a.size = b.size)
    (hb : h.get B = some (outB encB 5 (List.replicate a.size 0))) : ref03_Add_l0 k D J a b ⟨some ⟨B, 0, sp⟩, a.size, a.size⟩ 0 h = J ⟨some ⟨B, 0, sp⟩, a.size, a.size⟩ (h.set B (outB encB 5 (addL (bl a) (bl b)))) := by
  unfold ref03_Add_l0
  obtain ⟨bot, hbot⟩ := iterK_of (fun _ _ _ _ _ => none) (ref03_Add_l0b k D J) (show a.size + 1 ≤ k by omega)
  rw [hbot]
  have key := fill0 encB 5 B (fun i => ((bl a)[i]?.getD 0) ^^^ ((bl b)[i]?.getD 0)) (List.replicate a.size 0) h hb
    (fun m i h => iterK bot (m + 1) (ref03_Add_l0b k D J) a b ⟨some ⟨B, 0, sp⟩, a.size, a.size⟩ (i : Int) h) (fun h => J ⟨some ⟨B, 0, sp⟩, a.size, a.size⟩ h)
    (fun m i l hi hl hlk => by
      rw [List.length_replicate] at hi hl
      obtain ⟨x, hx⟩ := isome (l := bl a) (i := i) (by rw [bl_length]; omega)
      obtain ⟨y, hy⟩ := isome (l := bl b) (i := i) (by rw [bl_length]; omega)
      rw [iterK_s, ref03_Add_l0b]
      refine ifp (by simp; omega) ?_
      refine bnd (idxS_of hx) ?_
      refine bnd (idxS_of hy) ?_
      refine bnd (idxL_out (by omega)) ?_
      rw [xor_u8]
      refine bnd (stB (x ^^^ y) (by omega)) ?_
      rw [w64 _ (by omega), getD_of hx, getD_of hy]
      rfl)
    (fun h => by
      rw [List.length_replicate]
      show iterK bot (0 + 1) _ _ _ _ _ _ = _
      rw [iterK_s, ref03_Add_l0b]
      exact ifn (by simp) rfl)
  have e := range_zip (a := bl a) (b := bl b) (by rw [bl_length, bl_length]; exact hab)
  rw [bl_length] at e
  rw [List.length_replicate, e] at key
  exact key
theorem zeros_out {h : AHeap} {n : Nat} {e : TypeId} : (h.new (.cells (zerosL n [.int .u8 0]) e true 0)).get h.next = some (outB encB e (List.replicate n 0)) := by
  simp [outB, zeros_bytes]
theorem radd_spec {k : Nat} (D : CallF) (a b : ByteArray) (h : AHeap) (hk : a.size < k) (hs : a.size ≤ 281474976710656) : ∃ h', ref03_Add k D a b h = some (addA a b, h') ∧ Keeps h h' := by
  unfold addA ref03_Add
  by_cases hab : a.size = b.size
  · refine ⟨(h.new (.cells (zerosL a.size [.int .u8 0]) 5 true 0)).set h.next (outB encB 5 (addL (bl a) (bl b))), ?_, new_out _ _ rfl⟩
    refine ifn (by simp [hab]) ?_
    refine ifp (by omega) ?_
    refine jn ?_
    rw [Int.toNat_natCast]
    rw [radd_loop k D _ a b h.next (some 0) (h.new (.cells (zerosL a.size [.int .u8 0]) 5 true 0)) hk (by omega) hab zeros_out]
    have := bytesOf_out (cap := a.size) (sp := some 0) (get_out (enc := encB) (e := 5) (l := addL (bl a) (bl b)) (h := h.new (.cells (zerosL a.size [.int .u8 0]) 5 true 0)) (B := h.next))
    rw [addL_length hab] at this
    refine bnd this ?_
    rw [if_pos hab]
  · refine ⟨h, ?_, .refl _ _⟩
    refine ifp (by simp; omega) ?_
    rw [if_neg hab]
theorem by_loop (k : Nat) (D : CallF) (J : Slc → AHeap → Option (ByteArray × AHeap)) (s : ByteArray) (c : Nat) (hc : c < 256) (B : Nat) (sp : Option Nat) (h : AHeap) (hk : s.size < k) (hk9 : 9 ≤ k) (hs : s.size < 9223372036854775807)
    (hb : h.get B = some (outB encB 5 (List.replicate s.size 0))) : ref03_By_l0 k D J s c ⟨some ⟨B, 0, sp⟩, s.size, s.size⟩ 0 h = J ⟨some ⟨B, 0, sp⟩, s.size, s.size⟩ (h.set B (outB encB 5 (scaleL c (bl s)))) := by
  unfold ref03_By_l0
  obtain ⟨bot, hbot⟩ := iterK_of (fun _ _ _ _ _ => none) (ref03_By_l0b k D J) (show s.size + 1 ≤ k by omega)
  rw [hbot]
  have key := fill0 encB 5 B (fun i => UInt8.ofNat (mulT ((bl s)[i]?.getD 0).toNat c)) (List.replicate s.size 0) h hb
    (fun m i h => iterK bot (m + 1) (ref03_By_l0b k D J) s c ⟨some ⟨B, 0, sp⟩, s.size, s.size⟩ (i : Int) h) (fun h => J ⟨some ⟨B, 0, sp⟩, s.size, s.size⟩ h)
    (fun m i l hi hl hlk => by
      rw [List.length_replicate] at hi hl
      obtain ⟨x, hx⟩ := isome (l := bl s) (i := i) (by rw [bl_length]; omega)
      have hx1 := u8_lt x
      rw [iterK_s, ref03_By_l0b]
      refine ifp (by simp; omega) ?_
      refine bnd (idxS_of hx) ?_
      rw [w64 _ (by omega)]
      refine bnd (rtimes_spec hk9 D hx1 hc _) ?_
      refine bnd (idxL_out (by omega)) ?_
      have hm := mulT_lt x.toNat c
      rw [w8 _ (by omega)]
      have hu : ((mulT x.toNat c : Nat) : Int) = ((UInt8.ofNat (mulT x.toNat c)).toNat : Int) := by rw [UInt8.toNat_ofNat_of_lt' (by simpa using hm)]
      rw [hu]
      refine bnd (stB _ (by omega)) ?_
      rw [w64 _ (by omega), getD_of hx]
      rfl)
    (fun h => by
      rw [List.length_replicate]
      show iterK bot (0 + 1) _ _ _ _ _ _ = _
      rw [iterK_s, ref03_By_l0b]
      exact ifn (by simp) rfl)
  have e := range_map (a := bl s) (fun x => UInt8.ofNat (mulT x.toNat c))
  rw [bl_length] at e
  rw [List.length_replicate, e] at key
  exact key
theorem scaleL_length (c : Nat) (s : ByteArray) : (scaleL c (bl s)).length = s.size := by simp [scaleL, bl_length]
theorem by_spec {k : Nat} (D : CallF) (s : ByteArray) (c : Nat) (hc : c < 256) (h : AHeap) (hk : s.size < k) (hk9 : 9 ≤ k) (hs : s.size ≤ 281474976710656) : ∃ h', ref03_By k D s c h = some (⟨⟨scaleL c (bl s)⟩⟩, h') ∧ Keeps h h' := by
  unfold ref03_By
  refine ⟨(h.new (.cells (zerosL s.size [.int .u8 0]) 5 true 0)).set h.next (outB encB 5 (scaleL c (bl s))), ?_, new_out _ _ rfl⟩
  refine ifp (by omega) ?_
  refine jn ?_
  rw [Int.toNat_natCast]
  rw [by_loop k D _ s c hc h.next (some 0) (h.new (.cells (zerosL s.size [.int .u8 0]) 5 true 0)) hk hk9 (by omega) zeros_out]
  have := bytesOf_out (cap := s.size) (sp := some 0) (get_out (enc := encB) (e := 5) (l := scaleL c (bl s)) (h := h.new (.cells (zerosL s.size [.int .u8 0]) 5 true 0)) (B := h.next))
  rw [scaleL_length] at this
  exact bnd this rfl
theorem FS.chg {b : Nat} {h h' : AHeap} (s : FS b h h') : Chg (· = b) h h' := ⟨s.nx, fun x hx hb => s.oth x hx hb⟩
theorem fldchg {S : Nat → Prop} {h h' : AHeap} {b : Nat} (f : Fld h b) (hb : b < h.next) (c : Chg S h h') (hs : ¬ S b) : Fld h' b := by
  obtain ⟨t, h1, h2⟩ := f
  exact ⟨t, by rw [c.oth b hb hs]; exact h1, h2⟩
theorem Fld.keeps {b : Nat} {h h' : AHeap} (f : Fld h b) (hb : b < h.next) (c : Keeps h h') : Fld h' b := by
  obtain ⟨t, h1, h2⟩ := f
  exact ⟨t, by rw [c.oth b hb (fun f => f)]; exact h1, h2⟩
theorem FS.keeps {b : Nat} {h h' : AHeap} (f : Fld h b) (hb : b < h.next) (c : Keeps h h') : FS b h h' :=
  ⟨c.nx, fun x hx _ => c.oth x hx fun f => f, f.keeps hb c⟩
theorem FS.out {b : Nat} {h h' : AHeap} (f : FS b h h') {B : Nat} {C : ABlk} (hB : h.next ≤ B) (hne : B ≠ b) : FS b h (h'.set B C) :=
  ⟨f.nx, fun x hx hb => by rw [AHeap.get_set, if_neg (by omega)]; exact f.oth x hx hb, by
    obtain ⟨t, h1, h2⟩ := f.fld
    exact ⟨t, by rw [AHeap.get_set, if_neg (fun e => hne e.symm)]; exact h1, h2⟩⟩
end Gz
namespace Gz
open Go Gx Go.Proofs
def mixL (ls : List ByteArray) (cs : List Int) (o : List UInt8) : List UInt8 := (ls.zip cs).foldl (fun o p => addL o (scaleL p.2.toNat (bl p.1))) o
def sames (n : Nat) (ls : List ByteArray) : Bool := ls.all fun s => s.size == n
def mixA (ls : List ByteArray) (cs : List Int) : ByteArray × Int :=
  if ls.length = cs.length then
    if sames (ls.headD ⟨#[]⟩).size ls then
      if cs.all inR then
        (⟨⟨mixL ls cs (List.replicate (ls.headD ⟨#[]⟩).size 0)⟩⟩, 0)
      else (⟨#[]⟩, 1)
    else (⟨#[]⟩, 4)
  else (⟨#[]⟩, 4)
theorem sames_drop {n : Nat} {ls : List ByteArray} {i : Nat} {s : ByteArray} (h : ls[i]? = some s) : sames n (ls.drop i) = ((s.size == n) && sames n (ls.drop (i + 1))) := by
  obtain ⟨hi, rfl⟩ := List.getElem?_eq_some_iff.1 h
  rw [List.drop_eq_getElem_cons hi]
  rfl
theorem head_of {ls : List ByteArray} {s : ByteArray} (h : ls[0]? = some s) : ls.headD ⟨#[]⟩ = s := by
  cases ls with
  | nil => simp at h
  | cons a t => simpa using h
theorem fmix_l2 (K : Nat) (D : CallF) (j) (bot) {l : Slc} {ls : List ByteArray} {h : AHeap} (R : Row encS h l ls) (hs : ls.length < 9223372036854775807) {n0 : Nat} (hn0 : ∀ s, ls[0]? = some s → s.size = n0) (f : Option Addr) (c : Slc) : ∀ (m i : Nat) (long : Int), i + m = ls.length →
    long = (if i = 0 then -1 else (n0 : Int)) →
    iterK bot (m + 1) (field_Field_Mix_l2b K D j) f l c long l (ls.length : Int) (i : Int) h = j f l c (if sames n0 (ls.drop i) then (if ls.length = 0 then -1 else (n0 : Int)) else -1) h
  | 0, i, long, hi, hl => by
    rw [iterK_s, field_Field_Mix_l2b]
    refine ifn (by simp; omega) ?_
    obtain rfl : i = ls.length := by omega
    rw [hl, List.drop_length]
    rfl
  | m + 1, i, long, hi, hl => by
    obtain ⟨s, hsi⟩ := isome (l := ls) (i := i) (by omega)
    obtain ⟨q, hq, hld⟩ := R.ldS hsi
    have ih := fmix_l2 K D j bot R hs hn0 f c m (i + 1) n0 (by omega) (by simp)
    have w : IntKind.wrap .i64 ((i : Int) + 1) = ((i + 1 : Nat) : Int) := by rw [w64 _ (by omega)]; omega
    rw [iterK_s, field_Field_Mix_l2b]
    refine ifp (by simp; omega) ?_
    refine jn ?_
    refine bnd hq (bnd hld ?_)
    rw [sames_drop hsi]
    by_cases i0 : i = 0
    · subst i0
      refine ifp (by simp) ?_
      have e := hn0 s hsi
      subst e
      dsimp only
      rw [w, ih]
      simp
    · refine ifn (by simp; omega) ?_
      rw [hl, if_neg i0]
      by_cases e : s.size = n0
      · refine ifn (by simp [e]) ?_
        dsimp only
        rw [w, ih, e]
        simp
      · refine ifp (by simp; omega) ?_
        have : (s.size == n0) = false := by simpa using e
        rw [this]
        rfl
theorem addL_scale {n c : Nat} {o s : List UInt8} (ho : o.length = n) (hs : s.length = n) :
    (List.range n).map (fun i => (o[i]?.getD 0) ^^^ (UInt8.ofNat (mulT (s[i]?.getD 0).toNat c))) = addL o (scaleL c s) := by
  apply List.ext_getElem?
  intro i
  simp only [addL, scaleL, List.getElem?_map, List.getElem?_zipWith]
  by_cases hi : i < n
  · simp [show i < o.length by omega, show i < s.length by omega, hi]
  · simp [show ¬ i < o.length by omega, hi]
theorem fmix_l1 (k : Nat) (D : CallF) (j) {B b n : Nat} {t : List Value} (s : ByteArray) (o : List UInt8) (cv : Nat) (hcv : cv < 256) (c : Slc) (i : Int) (y : Slc) (y1 y2 : Int) (h : AHeap)
    (ho : o.length = n) (hs : s.size = n) (hk : n < k) (hn : n < 9223372036854775807) (hB : B ≠ b) (ht : h.get b = some (.cells t 143 true 0)) (hm : Made t)
    (hc : ∀ l : List UInt8, ∃ q, idxL 1 c i = some q ∧ Gx.ldI .i64 q (h.set B (outB encB 5 l)) = some (cv : Int)) :
    field_Field_Mix_l1 k D j c ⟨some ⟨B, 0, some 0⟩, n, n⟩ (some ⟨b, 3, none⟩) i s y y1 y2 (n : Int) 0 (h.set B (outB encB 5 o)) =
      j c ⟨some ⟨B, 0, some 0⟩, n, n⟩ (some ⟨b, 3, none⟩) y y1 y2 (h.set B (outB encB 5 (addL o (scaleL cv (bl s))))) := by
  unfold field_Field_Mix_l1
  obtain ⟨bot, hbot⟩ := iterK_of (fun _ _ _ _ _ _ _ _ _ _ _ => none) (field_Field_Mix_l1b k D j) (show n + 1 ≤ k by omega)
  rw [hbot]
  have key := fill0 encB 5 B (fun i => (o[i]?.getD 0) ^^^ (UInt8.ofNat (mulT ((bl s)[i]?.getD 0).toNat cv))) o (h.set B (outB encB 5 o)) (by simp)
    (fun m p h => iterK bot (m + 1) (field_Field_Mix_l1b k D j) c ⟨some ⟨B, 0, some 0⟩, n, n⟩ (some ⟨b, 3, none⟩) i s y y1 y2 (n : Int) (p : Int) h) (fun h => j c ⟨some ⟨B, 0, some 0⟩, n, n⟩ (some ⟨b, 3, none⟩) y y1 y2 h)
    (fun m p l hp hl hlk => by
      rw [set_out]
      obtain ⟨x, hx⟩ := isome (l := bl s) (i := p) (by rw [bl_length]; omega)
      obtain ⟨z, hz⟩ := isome (l := o) (i := p) (by omega)
      have hx1 := u8_lt x
      obtain ⟨q, hq, hld⟩ := hc l
      have hzl := rdB_out (sp := none) (get_out (enc := encB) (e := 5) (l := l) (h := h) (B := B)) ((hlk p (Nat.le_refl _)).trans hz)
      rw [iterK_s, field_Field_Mix_l1b]
      refine ifp (by simp; omega) ?_
      refine jn ?_
      refine bnd (idxS_of hx) ?_
      refine bnd hq (bnd hld ?_)
      rw [w64 _ (by omega)]
      refine bnd (times_spec k D (c := t) (by rw [AHeap.get_set, if_neg (fun e => hB e.symm)]; exact ht) hm hx1 hcv) ?_
      refine bnd (idxL_out (by omega)) ?_
      refine bnd hzl ?_
      refine gp (fun H hH => by simp at hH; subst hH; exact bnd hzl rfl) ?_
      refine bnd (idxL_out (by omega)) ?_
      have hm := mulT_lt x.toNat cv
      rw [w8 _ (by omega)]
      have hu : ((mulT x.toNat cv : Nat) : Int) = ((UInt8.ofNat (mulT x.toNat cv)).toNat : Int) := by rw [UInt8.toNat_ofNat_of_lt' (by simpa using hm)]
      rw [hu, xor_u8]
      refine bnd (stB _ (by omega)) ?_
      rw [w64 _ (by omega), getD_of hx, getD_of hz, set_out]
      rfl)
    (fun h => by
      show iterK bot (0 + 1) _ _ _ _ _ _ _ _ _ _ _ _ = _
      rw [iterK_s, field_Field_Mix_l1b]
      exact ifn (by simp [ho]) rfl)
  rw [set_out, ho, addL_scale ho (by rw [bl_length]; exact hs)] at key
  exact key
theorem mixL_cons {i : Nat} {ls : List ByteArray} {cs : List Int} {s : ByteArray} {c : Int} (hs : ls[i]? = some s) (hc : cs[i]? = some c) (o : List UInt8) :
    mixL (ls.drop i) (cs.drop i) o = mixL (ls.drop (i + 1)) (cs.drop (i + 1)) (addL o (scaleL c.toNat (bl s))) := by
  obtain ⟨h1, rfl⟩ := List.getElem?_eq_some_iff.1 hs
  obtain ⟨h2, rfl⟩ := List.getElem?_eq_some_iff.1 hc
  rw [List.drop_eq_getElem_cons h1, List.drop_eq_getElem_cons h2]
  rfl
theorem all_get {cs : List Int} (h : cs.all inR = true) {i : Nat} {c : Int} (hc : cs[i]? = some c) : ∃ n : Nat, c = n ∧ n < 256 := by
  obtain ⟨h2, rfl⟩ := List.getElem?_eq_some_iff.1 hc
  exact inR_iff.1 (List.all_eq_true.1 h _ (List.getElem_mem h2))
theorem sames_get {n : Nat} {ls : List ByteArray} (h : sames n ls = true) {i : Nat} {s : ByteArray} (hs : ls[i]? = some s) : s.size = n := by
  obtain ⟨h2, rfl⟩ := List.getElem?_eq_some_iff.1 hs
  simpa using List.all_eq_true.1 h _ (List.getElem_mem h2)
theorem fmix_l0 (k : Nat) (D : CallF) (j) (bot) {B b n : Nat} {t : List Value} {l c : Slc} {ls : List ByteArray} {cs : List Int} (h : AHeap) (hk : n < k) (hn : n < 9223372036854775807) (hlen : ls.length = cs.length) (hls : ls.length < 9223372036854775807)
    (Rl : ∀ o, Row encS (h.set B (outB encB 5 o)) l ls) (Rc : ∀ o, Row encI (h.set B (outB encB 5 o)) c cs) (hsm : sames n ls = true) (hin : cs.all inR = true)
    (hB : B ≠ b) (ht : h.get b = some (.cells t 143 true 0)) (hm : Made t) : ∀ (m i : Nat) (o : List UInt8), i + m = ls.length → o.length = n →
    iterK bot (m + 1) (field_Field_Mix_l0b k D j) c ⟨some ⟨B, 0, some 0⟩, n, n⟩ (some ⟨b, 3, none⟩) l (ls.length : Int) (i : Int) (h.set B (outB encB 5 o)) =
      j ⟨some ⟨B, 0, some 0⟩, n, n⟩ (h.set B (outB encB 5 (mixL (ls.drop i) (cs.drop i) o)))
  | 0, i, o, hi, ho => by
    rw [iterK_s, field_Field_Mix_l0b]
    refine ifn (by simp; omega) ?_
    obtain rfl : i = ls.length := by omega
    rw [List.drop_length]
    rfl
  | m + 1, i, o, hi, ho => by
    obtain ⟨s, hsi⟩ := isome (l := ls) (i := i) (by omega)
    obtain ⟨x, hx⟩ := isome (l := cs) (i := i) (by omega)
    obtain ⟨q, hq, hld⟩ := (Rl o).ldS hsi
    obtain ⟨cv, rfl, hcv⟩ := all_get hin hx
    have hsz := sames_get hsm hsi
    have w : IntKind.wrap .i64 ((i : Int) + 1) = ((i + 1 : Nat) : Int) := by rw [w64 _ (by omega)]; omega
    rw [iterK_s, field_Field_Mix_l0b]
    refine ifp (by simp; omega) ?_
    refine jn ?_
    refine bnd hq (bnd hld ?_)
    rw [fmix_l1 k D _ s o cv hcv c i l ls.length i h ho hsz hk hn hB ht hm (fun l => (Rc l).ldI hx)]
    rw [w, fmix_l0 k D j bot h hk hn hlen hls Rl Rc hsm hin hB ht hm m (i + 1) _ (by omega) (by simp [addL, scaleL, bl_length, ho, hsz]), mixL_cons hsi hx]
    rfl
theorem mixL_length {n : Nat} : ∀ {ls : List ByteArray} {cs : List Int} {o : List UInt8}, sames n ls = true → o.length = n → (mixL ls cs o).length = n
  | [], cs, o, _, ho => by simpa [mixL] using ho
  | s :: ls, [], o, _, ho => by simpa [mixL] using ho
  | s :: ls, c :: cs, o, hs, ho => by
    simp only [sames, List.all_cons, Bool.and_eq_true, beq_iff_eq] at hs
    exact mixL_length (ls := ls) (cs := cs) (o := addL o (scaleL c.toNat (bl s))) hs.2 (by simp [addL, scaleL, bl_length, ho, hs.1])
theorem sames_nil {n : Nat} {ls : List ByteArray} (h : ls.length = 0) : sames n ls = true := by
  cases ls with
  | nil => rfl
  | cons _ _ => simp at h
theorem Row.fis {h : AHeap} {c : Slc} {cs : List Int} (R : Row encI h c cs) (K : Nat) (D : CallF) (j2 : AHeap → Option (Bool × AHeap)) (bot) (hsm : cs.length < 9223372036854775807) : ∀ (m i : Nat), i + m = cs.length →
    iterK bot (m + 1) (field_is_l0b K D j2) c (cs.length : Int) (i : Int) h = if (cs.drop i).all inR = true then j2 h else some (false, h)
  | 0, i, hi => by
    rw [iterK_s, field_is_l0b]
    refine ifn (by simp; omega) ?_
    rw [List.drop_eq_nil_of_le (by omega)]
    simp
  | m + 1, i, hi => by
    obtain ⟨x, hx⟩ := isome (l := cs) (i := i) (by omega)
    obtain ⟨q, hq, hld⟩ := R.ldI hx
    have ih := Row.fis R K D j2 bot hsm m (i + 1) (by omega)
    have w : IntKind.wrap .i64 ((i : Int) + 1) = ((i + 1 : Nat) : Int) := by rw [w64 _ (by omega)]; omega
    rw [iterK_s, field_is_l0b]
    refine ifp (by simp; omega) ?_
    refine bnd hq (bnd hld ?_)
    obtain ⟨h2, h3⟩ := List.getElem?_eq_some_iff.1 hx
    rw [List.drop_eq_getElem_cons h2, h3]
    simp only [joinK, List.all_cons]
    rw [w, ih]
    simp only [inR]
    by_cases c1 : x < 0
    · simp [c1]
    · by_cases c2 : x ≥ 256
      · simp [c1, c2]
      · simp [c1, c2]
theorem fis_spec {k : Nat} (D : CallF) {h : AHeap} {c : Slc} {cs : List Int} (R : Row encI h c cs) (hk : cs.length < k) (hsm : cs.length < 9223372036854775807) : field_is k D c h = some (cs.all inR, h) := by
  rw [field_is, joinK, field_is_l0]
  obtain ⟨bot, hbot⟩ := iterK_of (fun _ _ _ _ => none) (field_is_l0b k D fun h1 => some (true, h1)) (show cs.length + 1 ≤ k by omega)
  rw [hbot, R.1]
  have := Row.fis R k D (fun h1 => some (true, h1)) bot hsm cs.length 0 (by omega)
  rw [List.drop_zero] at this
  refine this.trans ?_
  cases cs.all inR <;> rfl
theorem fmix_spec {k : Nat} (hk : 256 ≤ k) {h : AHeap} {b : Nat} (hf : Fld h b) (hb : b < h.next) {l c : Slc} {ls : List ByteArray} {cs : List Int} (Rl : Row encS h l ls) (Rc : Row encI h c cs)
    (hlb : ∀ a, l.a = some a → ¬ a.block = b) (hcb : ∀ a, c.a = some a → ¬ a.block = b) (hkl : ls.length < k) (hkc : cs.length < k) (hkn : ∀ s ∈ ls, s.size < k)
    (hl : ls.length < 9223372036854775807) (hc : cs.length < 9223372036854775807) (hn : ∀ s ∈ ls, s.size ≤ 281474976710656) :
    ∃ h', field_Field_Mix k (DD k) (some ⟨b, 0, none⟩) l c h = some (mixA ls cs, h') ∧ FS b h h' := by
  unfold field_Field_Mix mixA
  rw [Rl.1, Rc.1]
  by_cases hlen : ls.length = cs.length
  · rw [if_pos hlen]
    obtain ⟨n, hnn⟩ : ∃ n, n = (ls.headD ⟨#[]⟩).size := ⟨_, rfl⟩
    have hnk : n < k ∧ n ≤ 281474976710656 := by
      cases ls with
      | nil => subst hnn; exact ⟨by show 0 < k; omega, by show 0 ≤ _; omega⟩
      | cons s t => simp at hnn; subst hnn; exact ⟨hkn s (by simp), hn s (by simp)⟩
    have l2 : ∀ j, field_Field_Mix_l2 k (DD k) j (some ⟨b, 0, none⟩) l c (-1) l (ls.length : Int) 0 h = j (some ⟨b, 0, none⟩) l c (if sames n ls then (if ls.length = 0 then -1 else (n : Int)) else -1) h := fun j => by
      unfold field_Field_Mix_l2
      obtain ⟨bot, hbot⟩ := iterK_of (fun _ _ _ _ _ _ _ _ => none) (field_Field_Mix_l2b k (DD k) j) (show ls.length + 1 ≤ k by omega)
      rw [hbot]
      have := fmix_l2 k (DD k) j bot Rl hl (n0 := n) (fun s e => by rw [hnn, head_of e]) (some ⟨b, 0, none⟩) c ls.length 0 (-1) (by omega) (by simp)
      rw [List.drop_zero] at this
      exact this
    rw [← hnn]
    by_cases hsm : sames n ls = true
    · simp only [hsm, if_true] at l2 ⊢
      have lgt : (decide ((if ls.length = 0 then (-1 : Int) else (n : Int)) < 0)) = decide (ls.length = 0) := by
        by_cases e : ls.length = 0
        · simp [e]
        · simp [e]
      have mx : (if (if ls.length = 0 then (-1 : Int) else (n : Int)) > 0 then (if ls.length = 0 then (-1 : Int) else (n : Int)) else 0) = (n : Int) := by
        by_cases e : ls.length = 0
        · have : n = 0 := by
            cases ls with
            | nil => exact hnn
            | cons _ _ => simp at e
          simp [e, this]
        · by_cases n0 : n = 0
          · simp [e, n0]
          · simp [e, Nat.pos_of_ne_zero n0]
      by_cases hin : cs.all inR = true
      · simp only [hin, if_true]
        obtain ⟨h1, hh1⟩ : ∃ h1, h1 = h.new (.cells (zerosL n [.int .u8 0]) 5 true 0) := ⟨_, rfl⟩
        have f1 : FS b h h1 := hh1 ▸ FS.new hf hb _
        obtain ⟨t, hm, ht⟩ := tables_spec hk f1.fld
        obtain ⟨h2, hh2⟩ : ∃ h2, h2 = h1.set b (.cells t 143 true 0) := ⟨_, rfl⟩
        have f2 : FS b h h2 := hh2 ▸ f1.trans (.made hm)
        have hne : h.next ≠ b := by omega
        have key : ∀ o, FS b h (h2.set h.next (outB encB 5 o)) := fun o => f2.out (Nat.le_refl _) hne
        refine ⟨h2.set h.next (outB encB 5 (mixL ls cs (List.replicate n 0))), ?_, key _⟩
        refine ifn (by simp [hlen]) ?_
        refine jn ?_
        rw [l2]
        refine jn ?_
        have tl : field_is k (DD k) c h = some (true, h) := hin ▸ fis_spec (DD k) Rc hkc hc
        have rest : ((field_is k (DD k) c h).bind fun r14 =>
          if (!r14.1) = true then some (((⟨#[]⟩ : ByteArray), (1 : Int)), r14.2)
          else
            if 0 ≤ (n : Int) ∧ (n : Int) ≤ (n : Int) ∧ (n : Int) ≤ 281474976710656 ∧ 1 * (n : Int) ≤ 281474976710656 then
              (field_Field_tables k (DD k) (some ⟨b, 0, none⟩) (AHeap.new r14.2 (.cells (zerosL ((n : Int)).toNat [.int .u8 0]) 5 true 0))).bind fun r16 =>
              joinK (fun (out17 : Slc) (h18 : AHeap) => (bytesOf h18 out17).bind fun s20 => some ((s20, (0 : Int)), h18)) fun j19 =>
              field_Field_Mix_l0 k (DD k) j19 c (⟨(some ⟨r14.2.next, 0, some 0⟩), ((n : Int)).toNat, ((n : Int)).toNat⟩ : Slc) r16.1 l (l.len : Int) 0 r16.2
            else none) = some ((⟨⟨mixL ls cs (List.replicate n 0)⟩⟩, 0), h2.set h.next (outB encB 5 (mixL ls cs (List.replicate n 0)))) := by
          refine bnd tl ?_
          refine ifn (by simp) ?_
          refine ifp (by omega) ?_
          rw [Int.toNat_natCast]
          refine bnd (hh1 ▸ ht) ?_
          refine jn ?_
          rw [← hh1, ← hh2]
          have get2 : h2.get h.next = some (outB encB 5 (List.replicate n 0)) := by
            rw [hh2, AHeap.get_set, if_neg hne, hh1]; exact zeros_out
          unfold field_Field_Mix_l0
          obtain ⟨bot, hbot⟩ := iterK_of (fun _ _ _ _ _ _ _ => none) (field_Field_Mix_l0b k (DD k) fun (out17 : Slc) (h18 : AHeap) => (bytesOf h18 out17).bind fun s20 => some ((s20, (0 : Int)), h18)) (show ls.length + 1 ≤ k by omega)
          rw [hbot, Rl.1]
          have := fmix_l0 k (DD k) (fun (out17 : Slc) (h18 : AHeap) => (bytesOf h18 out17).bind fun s20 => some ((s20, (0 : Int)), h18)) bot (B := h.next) (b := b) (n := n) (t := t) h2 hnk.1 (by omega) hlen hl
            (fun o => Rl.chg (key o).chg hlb) (fun o => Rc.chg (key o).chg hcb) hsm hin hne (by rw [hh2]; simp) hm ls.length 0 (List.replicate n 0) (by omega) (by simp)
          rw [set_self get2, List.drop_zero, List.drop_zero] at this
          refine this.trans ?_
          have hl := mixL_length (cs := cs) hsm (List.length_replicate (n := n) (a := (0 : UInt8)))
          have bo := bytesOf_out (cap := n) (sp := some 0) (get_out (enc := encB) (e := 5) (l := mixL ls cs (List.replicate n 0)) (h := h2) (B := h.next))
          rw [hl] at bo
          exact bnd bo rfl
        rw [← mx] at rest
        by_cases e : ls.length = 0
        · refine ifn (by rw [Rl.1]; simp [e]) ?_
          exact ifn (by simp) rest
        · refine ifp (by rw [Rl.1]; simp; omega) ?_
          exact ifn (by rw [lgt]; simp [e]) rest
      · refine ⟨h, ?_, FS.refl hf⟩
        refine ifn (by simp [hlen]) ?_
        refine jn ?_
        rw [l2]
        refine jn ?_
        rw [if_neg hin]
        have tl : field_is k (DD k) c h = some (false, h) := by rw [fis_spec (DD k) Rc hkc hc]; simp only [Bool.not_eq_true] at hin; rw [hin]
        by_cases e : ls.length = 0
        · refine ifn (by rw [Rl.1]; simp [e]) ?_
          refine ifn (by simp) ?_
          exact bnd tl (ifp rfl rfl)
        · refine ifp (by rw [Rl.1]; simp; omega) ?_
          refine ifn (by rw [lgt]; simp [e]) ?_
          exact bnd tl (ifp rfl rfl)
    · refine ⟨h, ?_, FS.refl hf⟩
      refine ifn (by simp [hlen]) ?_
      refine jn ?_
      rw [l2, if_neg hsm, if_neg hsm]
      refine jn ?_
      have e : ls.length ≠ 0 := fun e => hsm (sames_nil e)
      refine ifp (by rw [Rl.1]; simp; omega) ?_
      exact ifp (by simp) rfl
  · rw [if_neg hlen]
    exact ⟨h, ifp (by simp; omega) rfl, FS.refl hf⟩
end Gz
namespace Gz
open Go Gx Go.Proofs
theorem rmix_l2 (K : Nat) (D : CallF) (j) (bot) {l : Slc} {ls : List ByteArray} {h : AHeap} (R : Row encS h l ls) (hs : ls.length < 9223372036854775807) {n0 : Nat} (hn0 : ∀ s, ls[0]? = some s → s.size = n0) (c : Slc) : ∀ (m i : Nat), i + m = ls.length →
    iterK bot (m + 1) (ref03_Mix_l2b K D j) l c (i : Int) h = if sames n0 (ls.drop i) then j l c h else some ((⟨#[]⟩, 4), h)
  | 0, i, hi => by
    rw [iterK_s, ref03_Mix_l2b]
    refine ifn (by rw [R.1]; simp; omega) ?_
    obtain rfl : i = ls.length := by omega
    rw [List.drop_length]
    rfl
  | m + 1, i, hi => by
    obtain ⟨s, hsi⟩ := isome (l := ls) (i := i) (by omega)
    obtain ⟨s0, hs0⟩ := isome (l := ls) (i := 0) (by omega)
    obtain ⟨q, hq, hld⟩ := R.ldS hsi
    obtain ⟨q0, hq0, hld0⟩ := R.ldS hs0
    have ih := rmix_l2 K D j bot R hs hn0 c m (i + 1) (by omega)
    have w : IntKind.wrap .i64 ((i : Int) + 1) = ((i + 1 : Nat) : Int) := by rw [w64 _ (by omega)]; omega
    rw [iterK_s, ref03_Mix_l2b]
    refine ifp (by rw [R.1]; simp; omega) ?_
    refine bnd hq (bnd hld (bnd hq0 (bnd hld0 ?_)))
    rw [sames_drop hsi, hn0 s0 hs0]
    by_cases e : s.size = n0
    · refine ifn (by simp [e]) ?_
      rw [w, ih, e]
      simp
    · refine ifp (by simp; omega) ?_
      simp [e]
theorem rmix_l1 (K : Nat) (D : CallF) (j) (bot) {c : Slc} {cs : List Int} {h : AHeap} (R : Row encI h c cs) (hs : cs.length < 9223372036854775807) (l : Slc) : ∀ (m i : Nat), i + m = cs.length →
    iterK bot (m + 1) (ref03_Mix_l1b K D j) l c (i : Int) h = if (cs.drop i).all inR = true then j l c h else some ((⟨#[]⟩, 1), h)
  | 0, i, hi => by
    rw [iterK_s, ref03_Mix_l1b]
    refine ifn (by rw [R.1]; simp; omega) ?_
    rw [List.drop_eq_nil_of_le (by omega)]
    simp
  | m + 1, i, hi => by
    obtain ⟨x, hx⟩ := isome (l := cs) (i := i) (by omega)
    obtain ⟨q, hq, hld⟩ := R.ldI hx
    have ih := rmix_l1 K D j bot R hs l m (i + 1) (by omega)
    have w : IntKind.wrap .i64 ((i : Int) + 1) = ((i + 1 : Nat) : Int) := by rw [w64 _ (by omega)]; omega
    rw [iterK_s, ref03_Mix_l1b]
    refine ifp (by rw [R.1]; simp; omega) ?_
    refine bnd hq (bnd hld (bnd (ris_spec _ _ _ _) ?_))
    obtain ⟨h2, h3⟩ := List.getElem?_eq_some_iff.1 hx
    rw [List.drop_eq_getElem_cons h2, h3]
    simp only [List.all_cons]
    by_cases hr : inR x = true
    · refine ifn (by simp [hr]) ?_
      rw [w, ih]
      simp [hr]
    · refine ifp (by simp [hr]) ?_
      simp [hr]
theorem rmix_l0 (k : Nat) (hk9 : 9 ≤ k) (D : CallF) (j) (bot) {n : Nat} {l c : Slc} {ls : List ByteArray} {cs : List Int} (hk : n < k) (hn : n ≤ 281474976710656) (hlen : ls.length = cs.length) (hls : ls.length < 9223372036854775807)
    (hsm : sames n ls = true) (hin : cs.all inR = true) : ∀ (m i : Nat) (o : List UInt8) (h : AHeap), Row encS h l ls → Row encI h c cs → i + m = ls.length → o.length = n →
    ∃ h', Keeps h h' ∧ iterK bot (m + 1) (ref03_Mix_l0b k D j) l c ⟨⟨o⟩⟩ (i : Int) h = j ⟨⟨mixL (ls.drop i) (cs.drop i) o⟩⟩ h'
  | 0, i, o, h, Rl, Rc, hi, ho => by
    refine ⟨h, .refl _ _, ?_⟩
    rw [iterK_s, ref03_Mix_l0b]
    refine ifn (by rw [Rl.1]; simp; omega) ?_
    obtain rfl : i = ls.length := by omega
    rw [List.drop_length]
    rfl
  | m + 1, i, o, h, Rl, Rc, hi, ho => by
    obtain ⟨s, hsi⟩ := isome (l := ls) (i := i) (by omega)
    obtain ⟨x, hx⟩ := isome (l := cs) (i := i) (by omega)
    obtain ⟨q, hq, hld⟩ := Rl.ldS hsi
    obtain ⟨q2, hq2, hld2⟩ := Rc.ldI hx
    obtain ⟨cv, rfl, hcv⟩ := all_get hin hx
    have hsz := sames_get hsm hsi
    have w : IntKind.wrap .i64 ((i : Int) + 1) = ((i + 1 : Nat) : Int) := by rw [w64 _ (by omega)]; omega
    obtain ⟨h1, e1, k1⟩ := by_spec D s cv hcv h (by omega) hk9 (by omega)
    obtain ⟨h2, e2, k2⟩ := radd_spec D ⟨⟨o⟩⟩ ⟨⟨scaleL cv (bl s)⟩⟩ h1 (k := k) (by rw [size_mk]; omega) (by rw [size_mk]; omega)
    have k12 := k1.trans k2
    obtain ⟨h', k3, e3⟩ := rmix_l0 k hk9 D j bot hk hn hlen hls hsm hin m (i + 1) (addL o (scaleL cv (bl s))) h2 (Rl.keeps k12) (Rc.keeps k12) (by omega) (by simp [addL, scaleL, bl_length, ho, hsz])
    refine ⟨h', k12.trans k3, ?_⟩
    rw [iterK_s, ref03_Mix_l0b]
    refine ifp (by rw [Rl.1]; simp; omega) ?_
    refine bnd hq (bnd hld (bnd hq2 (bnd hld2 (bnd e1 (bnd e2 ?_)))))
    rw [w, mixL_cons hsi hx, Int.toNat_natCast, ← e3]
    simp only [addA, size_mk, bl_mk, scaleL_length, ho, hsz, if_true]
theorem rmix_spec {k : Nat} (hk : 256 ≤ k) (D : CallF) {h : AHeap} {l c : Slc} {ls : List ByteArray} {cs : List Int} (Rl : Row encS h l ls) (Rc : Row encI h c cs)
    (hkl : ls.length < k) (hkc : cs.length < k) (hkn : ∀ s ∈ ls, s.size < k)
    (hl : ls.length < 9223372036854775807) (hc : cs.length < 9223372036854775807) (hn : ∀ s ∈ ls, s.size ≤ 281474976710656) :
    ∃ h', ref03_Mix k D l c h = some (mixA ls cs, h') ∧ Keeps h h' := by
  unfold ref03_Mix mixA
  rw [Rl.1, Rc.1]
  by_cases hlen : ls.length = cs.length
  · rw [if_pos hlen]
    obtain ⟨n, hnn⟩ : ∃ n, n = (ls.headD ⟨#[]⟩).size := ⟨_, rfl⟩
    have hnk : n < k ∧ n ≤ 281474976710656 := by
      cases ls with
      | nil => subst hnn; exact ⟨by show 0 < k; omega, by show 0 ≤ _; omega⟩
      | cons s t => simp at hnn; subst hnn; exact ⟨hkn s (by simp), hn s (by simp)⟩
    have l2 : ∀ j, ref03_Mix_l2 k D j l c 0 h = (if sames n ls then j l c h else some ((⟨#[]⟩, 4), h)) := fun j => by
      unfold ref03_Mix_l2
      obtain ⟨bot, hbot⟩ := iterK_of (fun _ _ _ _ => none) (ref03_Mix_l2b k D j) (show ls.length + 1 ≤ k by omega)
      rw [hbot]
      have := rmix_l2 k D j bot Rl hl (n0 := n) (fun s e => by rw [hnn, head_of e]) c ls.length 0 (by omega)
      rw [List.drop_zero] at this
      exact this
    have l1 : ∀ j, ref03_Mix_l1 k D j l c 0 h = (if cs.all inR then j l c h else some ((⟨#[]⟩, 1), h)) := fun j => by
      unfold ref03_Mix_l1
      obtain ⟨bot, hbot⟩ := iterK_of (fun _ _ _ _ => none) (ref03_Mix_l1b k D j) (show cs.length + 1 ≤ k by omega)
      rw [hbot]
      have := rmix_l1 k D j bot Rc hc l cs.length 0 (by omega)
      rw [List.drop_zero] at this
      exact this
    rw [← hnn]
    by_cases hsm : sames n ls = true
    · simp only [hsm, if_true] at l2 ⊢
      by_cases hin : cs.all inR = true
      · simp only [hin, if_true] at l1 ⊢
        by_cases e : ls.length = 0
        · refine ⟨h, ?_, .refl _ _⟩
          refine ifn (by simp [hlen]) ?_
          refine jn ?_
          rw [l2]
          refine jn ?_
          rw [l1]
          refine ifp (by rw [Rl.1]; simp [e]) ?_
          have : ls = [] := by simpa using e
          subst this
          obtain rfl : n = 0 := hnn
          rfl
        · obtain ⟨s0, hs0⟩ := isome (l := ls) (i := 0) (by omega)
          have hs0n : s0.size = n := by rw [hnn, head_of hs0]
          obtain ⟨q0, hq0, hld0⟩ := Rl.ldS hs0
          obtain ⟨h1, hh1⟩ : ∃ h1, h1 = h.new (.cells (zerosL n [.int .u8 0]) 5 true 0) := ⟨_, rfl⟩
          have k1 : Keeps h h1 := hh1 ▸ Keeps.new h _
          obtain ⟨bot, hbot⟩ := iterK_of (fun _ _ _ _ _ => none) (ref03_Mix_l0b k D fun (out13 : ByteArray) (h14 : AHeap) => some ((out13, (0 : Int)), h14)) (show ls.length + 1 ≤ k by omega)
          obtain ⟨h', k2, e2⟩ := rmix_l0 k (by omega) D (fun (out13 : ByteArray) (h14 : AHeap) => some ((out13, (0 : Int)), h14)) bot (n := n) (by omega) (by omega) hlen hl hsm hin ls.length 0 (List.replicate n 0) h1 (Rl.keeps k1) (Rc.keeps k1) (by omega) (by simp)
          refine ⟨h', ?_, k1.trans k2⟩
          refine ifn (by simp [hlen]) ?_
          refine jn ?_
          rw [l2]
          refine jn ?_
          rw [l1]
          refine ifn (by rw [Rl.1]; exact ne_nz e) ?_
          refine bnd hq0 (bnd hld0 ?_)
          refine ifp (by omega) ?_
          rw [Int.toNat_natCast, hs0n, ← hh1]
          have hz : h1.get h.next = some (outB encB 5 (List.replicate n 0)) := by rw [hh1]; exact zeros_out
          have bo := bytesOf_out (cap := n) (sp := some 0) (l := List.replicate n 0) hz
          rw [List.length_replicate] at bo
          refine bnd bo ?_
          refine jn ?_
          unfold ref03_Mix_l0
          rw [hbot]
          rw [List.drop_zero, List.drop_zero] at e2
          exact e2
      · refine ⟨h, ?_, .refl _ _⟩
        refine ifn (by simp [hlen]) ?_
        refine jn ?_
        rw [l2]
        refine jn ?_
        rw [l1, if_neg hin, if_neg hin]
    · refine ⟨h, ?_, .refl _ _⟩
      refine ifn (by simp [hlen]) ?_
      refine jn ?_
      rw [l2, if_neg hsm, if_neg hsm]
  · rw [if_neg hlen]
    exact ⟨h, ifp (by simp; omega) rfl, .refl _ _⟩
theorem sameS_spec {k : Nat} (D : CallF) {h : AHeap} {a b : Slc} {xs : List ByteArray} (Ra : Row encS h a xs) (Rb : Row encS h b xs) (hk : xs.length < k) (hs : xs.length < 9223372036854775807) : book_SameTexts k D a b h = some (true, h) := by
  unfold book_SameTexts
  refine ifn (by rw [Ra.1, Rb.1]; simp) ?_
  refine jn ?_
  unfold book_SameTexts_l0
  obtain ⟨bot, hbot⟩ := iterK_of (fun _ _ _ _ => none) (book_SameTexts_l0b k D fun h1 => some (true, h1)) (show xs.length + 1 ≤ k by omega)
  rw [hbot]
  have go : ∀ m i : Nat, i + m = xs.length → iterK bot (m + 1) (book_SameTexts_l0b k D fun h1 => some (true, h1)) a b (i : Int) h = some (true, h) := by
    intro m
    induction m with
    | zero => intro i hi; rw [iterK_s, book_SameTexts_l0b]; exact ifn (by rw [Ra.1]; simp; omega) rfl
    | succ m ih =>
      intro i hi
      obtain ⟨x, hx⟩ := isome (l := xs) (i := i) (by omega)
      obtain ⟨q, hq, hld⟩ := Ra.ldS hx
      obtain ⟨q2, hq2, hld2⟩ := Rb.ldS hx
      have w : IntKind.wrap .i64 ((i : Int) + 1) = ((i + 1 : Nat) : Int) := by rw [w64 _ (by omega)]; omega
      rw [iterK_s, book_SameTexts_l0b]
      refine ifp (by rw [Ra.1]; simp; omega) ?_
      refine bnd hq (bnd hld (bnd hq2 (bnd hld2 ?_)))
      refine ifn (by rw [ba_beq]; simp) ?_
      rw [w]
      exact ih (i + 1) (by omega)
  exact go xs.length 0 (by omega)
abbrev markS : ByteArray := ⟨#[109, 97, 114, 107]⟩
structure Lent (h : AHeap) (s : Slc) (xs : List ByteArray) : Prop where
  row : Row encS h ⟨s.a, xs.length + 1, s.cap⟩ (xs ++ [markS])
  len : s.len = xs.length
  cap : xs.length + 1 ≤ s.cap
  sp : ∀ a, s.a = some a → spOk a.spot 1 = true
theorem Lent.keeps {h h' : AHeap} {s : Slc} {xs : List ByteArray} (L : Lent h s xs) (c : Keeps h h') : Lent h' s xs := ⟨L.row.keeps c, L.len, L.cap, L.sp⟩
theorem Lent.chg {S : Nat → Prop} {h h' : AHeap} {s : Slc} {xs : List ByteArray} (L : Lent h s xs) (c : Chg S h h') (hs : ∀ a, s.a = some a → ¬ S a.block) : Lent h' s xs := ⟨L.row.chg c hs, L.len, L.cap, L.sp⟩
theorem Lent.own {h : AHeap} {s : Slc} {xs : List ByteArray} (L : Lent h s xs) : Row encS h s xs := by
  have := Row.take L.row (cap' := s.cap)
  rw [← L.len] at this
  exact this
end Gz
namespace Gz
open Go Gx Go.Proofs
def mat (N : Nat) (f : Nat → Int) : List Int := (List.range N).map f
theorem mat_length (N : Nat) (f : Nat → Int) : (mat N f).length = N := by simp [mat]
theorem mat_get {N : Nat} {f : Nat → Int} {t : Nat} (h : t < N) : (mat N f)[t]? = some (f t) := by simp [mat, h]
theorem mat_congr {N : Nat} {f g : Nat → Int} (h : ∀ t, t < N → f t = g t) : mat N f = mat N g := by
  apply List.map_congr_left
  intro t ht
  exact h t (List.mem_range.1 ht)
def upd (f : Nat → Int) (t : Nat) (x : Int) : Nat → Int := fun s => if s = t then x else f s
theorem mat_set {N : Nat} {f : Nat → Int} {t : Nat} {x : Int} : (mat N f).set t x = mat N (upd f t x) := by
  apply List.ext_getElem?
  intro i
  rw [List.getElem?_set]
  by_cases e : t = i
  · subst e
    by_cases h : t < N
    · rw [if_pos rfl, mat_length, if_pos h, mat_get h]; simp [upd]
    · rw [if_pos rfl, mat_length, if_neg h]; simp [mat, h]
  · rw [if_neg e]
    by_cases h : i < N
    · rw [mat_get h, mat_get h]; simp only [upd]; rw [if_neg fun x => e x.symm]
    · simp [mat, h]
theorem mat_ext {N : Nat} {f g : Nat → Int} (h : ∀ t, t < N → f t = g t) : outB encI 3 (mat N f) = outB encI 3 (mat N g) := by rw [mat_congr h]
theorem stI_out {h : AHeap} {b t N : Nat} {sp : Option Nat} {f : Nat → Int} (x : Int) (hb : h.get b = some (outB encI 3 (mat N f))) (ht : t < N) :
    st1 ⟨b, t, sp⟩ (.int .i64 x) h = some (h.set b (outB encI 3 (mat N (upd f t x)))) := by
  have : st1 ⟨b, t, sp⟩ (.int .i64 x) h = some (h.set b (.cells (((mat N f).map encI).set t (.int .i64 x)) 3 true 0)) := st1_of hb (by simp [mat_length]; exact ht) rfl
  rw [this, ← mat_set]
  simp only [outB]
  congr 4
  rw [List.map_set]; rfl
def mcell (r c : Int) (s : Slc) : List Value := [.int .i64 r, .int .i64 c, .slice s.a s.len s.cap]
theorem decM3 (r c : Int) (s : Slc) : decC [.i .i64, .i .i64, .l] (mcell r c s) = some (r, (c, s)) := rfl
theorem ldM3 {h : AHeap} {b : Nat} {e : TypeId} {rw' : Bool} {fz : Nat} {r c : Int} {s : Slc} {sp : Option Nat} (hb : h.get b = some (.cells (mcell r c s) e rw' fz)) : ldA 3 ⟨b, 0, sp⟩ h = some (mcell r c s) := by
  simp [ldA, AHeap.rdL, hb, mcell]
theorem stM3 {h : AHeap} {b : Nat} {e : TypeId} {cs : List Value} {r c : Int} {s : Slc} {sp : Option Nat} (hb : h.get b = some (.cells cs e true 0)) (hl : cs.length = 3) :
    stL 3 ⟨b, 0, sp⟩ (mcell r c s) h = some (h.set b (.cells (mcell r c s) e true 0)) := by
  have : cs.drop 3 = [] := List.drop_eq_nil_of_le (by omega)
  simp [stL, AHeap.wrL, hb, mcell, hl, allOne, one, splice, this]
theorem ldI1 {h : AHeap} {b : Nat} {e : TypeId} {rw' : Bool} {fz : Nat} {r c : Int} {s : Slc} {sp : Option Nat} (hb : h.get b = some (.cells (mcell r c s) e rw' fz)) : ldI .i64 ⟨b, 1, sp⟩ h = some c := ldI_of hb rfl
theorem ldL2 {h : AHeap} {b : Nat} {e : TypeId} {rw' : Bool} {fz : Nat} {r c : Int} {s : Slc} {sp : Option Nat} (hb : h.get b = some (.cells (mcell r c s) e rw' fz)) : ldL ⟨b, 2, sp⟩ h = some s := by
  simp [ldL, AHeap.rd1, hb, mcell, decL]
def whole (b N : Nat) (sp : Option Nat := some 0) : Slc := ⟨some ⟨b, 0, sp⟩, N, N⟩
theorem whole_row {h : AHeap} {b N : Nat} {sp : Option Nat} {f : Nat → Int} (hb : h.get b = some (outB encI 3 (mat N f))) (hn : b < h.next) : Row encI h (whole b N sp) (mat N f) := by
  have := Row.of_block (enc := encI) (h := h) (xs := mat N f) (b := b) (o := 0) (sp := sp) (cap := N) (c := (mat N f).map encI) (e := 3) (r := true) (fz := 0) hb hn (fun i x hx => by rw [Nat.zero_add, List.getElem?_map, hx]; rfl)
  rw [mat_length] at this
  exact this
theorem mk_out {h : AHeap} {n : Nat} : (AHeap.new h (.cells (zerosL n [.int .i64 0]) 3 true 0)) = h.new (outB encI 3 (mat n fun _ => 0)) := by
  congr 1
  simp [outB, zerosL, mat, encI, List.map_const']
theorem blank_spec (k : Nat) (D : CallF) (r c : Nat) (h : AHeap) (hs : r * c ≤ 100000) :
    ∃ h', matrix_blank k D r c h = some (((r : Int), (c : Int), whole (h.next + 1) (r * c)), h') ∧ Keeps h h' ∧ h'.next = h.next + 2 ∧ h'.get (h.next + 1) = some (outB encI 3 (mat (r * c) fun _ => 0)) := by
  obtain ⟨g1, hg1⟩ : ∃ g1, g1 = h.new (.cells [.int .i64 0, .int .i64 0, .slice none 0 0] 84 true 0) := ⟨_, rfl⟩
  obtain ⟨g2, hg2⟩ : ∃ g2, g2 = g1.new (outB encI 3 (mat (r * c) fun _ => 0)) := ⟨_, rfl⟩
  have e : IntKind.wrap .i64 ((r : Int) * (c : Int)) = ((r * c : Nat) : Int) := by
    rw [show (r : Int) * (c : Int) = ((r * c : Nat) : Int) by simp]
    exact w64 _ (by omega)
  have n1 : g1.next = h.next + 1 := by rw [hg1]; rfl
  have n2 : g2.next = h.next + 2 := by rw [hg2]; simp [n1]
  have hb : g2.get h.next = some (.cells [.int .i64 0, .int .i64 0, .slice none 0 0] 84 true 0) := by
    rw [hg2, AHeap.get_new, if_neg (by omega), hg1]; simp
  refine ⟨g2.set h.next (.cells (mcell r c (whole (h.next + 1) (r * c))) 84 true 0), ?_, ?_, by simp [n2], ?_⟩
  · unfold matrix_blank
    dsimp only
    rw [e]
    refine ifp (by omega) ?_
    rw [Int.toNat_natCast, ← hg1, mk_out, ← hg2]
    have st := stM3 (r := r) (c := c) (s := whole (h.next + 1) (r * c)) (sp := none) hb rfl
    rw [n1]
    refine bnd st ?_
    refine bnd (ldM3 (r := r) (c := c) (s := whole (h.next + 1) (r * c)) (e := 84) (rw' := true) (fz := 0) (by simp)) ?_
    exact bnd (decM3 _ _ _) rfl
  · have k2 : Keeps h g2 := (hg1 ▸ Keeps.new h _ : Keeps h g1).trans (hg2 ▸ Keeps.new g1 _)
    exact k2.beh (T := (· = h.next)) (.set (.inr rfl)) fun x hx e => by
      have e : x = h.next := e
      omega
  · rw [AHeap.get_set, if_neg (by omega), hg2, AHeap.get_new, n1, if_pos rfl]
theorem zero_spec (k : Nat) (D : CallF) (r c : Nat) (h : AHeap) (hs : r * c ≤ 100000) :
    ∃ h', ref04_zero k D r c h = some (((r : Int), (c : Int), whole (h.next + 1) (r * c)), h') ∧ Keeps h h' ∧ h'.next = h.next + 2 ∧ h'.get (h.next + 1) = some (outB encI 3 (mat (r * c) fun _ => 0)) := by
  obtain ⟨g1, hg1⟩ : ∃ g1, g1 = h.new (.cells [.int .i64 0, .int .i64 0, .slice none 0 0] 97 true 0) := ⟨_, rfl⟩
  obtain ⟨g2, hg2⟩ : ∃ g2, g2 = g1.new (outB encI 3 (mat (r * c) fun _ => 0)) := ⟨_, rfl⟩
  have e : IntKind.wrap .i64 ((r : Int) * (c : Int)) = ((r * c : Nat) : Int) := by
    rw [show (r : Int) * (c : Int) = ((r * c : Nat) : Int) by simp]
    exact w64 _ (by omega)
  have n1 : g1.next = h.next + 1 := by rw [hg1]; rfl
  have n2 : g2.next = h.next + 2 := by rw [hg2]; simp [n1]
  have hb : g2.get h.next = some (.cells [.int .i64 0, .int .i64 0, .slice none 0 0] 97 true 0) := by
    rw [hg2, AHeap.get_new, if_neg (by omega), hg1]; simp
  refine ⟨g2.set h.next (.cells (mcell r c (whole (h.next + 1) (r * c))) 97 true 0), ?_, ?_, by simp [n2], ?_⟩
  · unfold ref04_zero
    dsimp only
    rw [e]
    refine ifp (by omega) ?_
    rw [Int.toNat_natCast, ← hg1, mk_out, ← hg2]
    have st := stM3 (r := r) (c := c) (s := whole (h.next + 1) (r * c)) (sp := none) hb rfl
    rw [n1]
    refine bnd st ?_
    refine bnd (ldM3 (r := r) (c := c) (s := whole (h.next + 1) (r * c)) (e := 97) (rw' := true) (fz := 0) (by simp)) ?_
    exact bnd (decM3 _ _ _) rfl
  · have k2 : Keeps h g2 := (hg1 ▸ Keeps.new h _ : Keeps h g1).trans (hg2 ▸ Keeps.new g1 _)
    exact k2.beh (T := (· = h.next)) (.set (.inr rfl)) fun x hx e => by
      have e : x = h.next := e
      omega
  · rw [AHeap.get_set, if_neg (by omega), hg2, AHeap.get_new, n1, if_pos rfl]
theorem subL_whole {b N lo hi : Nat} {sp : Option Nat} (hsp : spOk sp 1 = true) (h1 : lo < hi) (h2 : hi ≤ N) : Gx.subL 1 (whole b N sp) (some (lo : Int)) (some (hi : Int)) (some (hi : Int)) = some ⟨some ⟨b, lo, some 0⟩, hi - lo, hi - lo⟩ := by
  unfold whole
  simp only [Gx.subL, Option.getD_some]
  rw [if_pos (by omega), if_pos hsp, if_neg (by omega)]
  simp
def rowOf (b c i : Nat) : Slc := ⟨some ⟨b, i * c, some 0⟩, c, c⟩
theorem row_specS (k : Nat) (D : CallF) {r c b i : Nat} {sp : Option Nat} (hsp : spOk sp 1 = true) (h : AHeap) (hi : i < r) (hc : 0 < c) (hs : r * c ≤ 100000) :
    ∃ h', matrix_M_row k D (r, c, whole b (r * c) sp) i h = some (rowOf b c i, h') ∧ Keeps h h' ∧ h'.next = h.next + 1 := by
  refine ⟨h.new (.cells (mcell r c (whole b (r * c) sp)) 84 true 0), ?_, Keeps.new h _, rfl⟩
  have hb : (h.new (.cells (mcell r c (whole b (r * c) sp)) 84 true 0)).get h.next = some (.cells (mcell r c (whole b (r * c) sp)) 84 true 0) := by simp
  have le : (i + 1) * c ≤ r * c := Nat.mul_le_mul_right c hi
  have e0 : (i + 1) * c = i * c + c := Nat.succ_mul i c
  have e1 : IntKind.wrap .i64 ((i : Int) * (c : Int)) = ((i * c : Nat) : Int) := by
    rw [show (i : Int) * (c : Int) = ((i * c : Nat) : Int) by simp]
    exact w64 _ (by omega)
  have r1 : r ≤ r * c := Nat.le_mul_of_pos_right r hc
  have e2 : IntKind.wrap .i64 (IntKind.wrap .i64 ((i : Int) + 1) * (c : Int)) = (((i + 1) * c : Nat) : Int) := by
    rw [w1 (by omega), show ((i + 1 : Nat) : Int) * (c : Int) = (((i + 1) * c : Nat) : Int) by simp]
    exact w64 _ (by omega)
  unfold matrix_M_row
  dsimp only
  refine bnd (ldL2 hb) (bnd (ldI1 hb) (bnd (ldI1 hb) (bnd (ldI1 hb) ?_)))
  rw [e1, e2]
  have sub := subL_whole (b := b) (N := r * c) (sp := sp) (lo := i * c) (hi := (i + 1) * c) hsp (by omega) le
  rw [e0, Nat.add_sub_cancel_left, ← e0] at sub
  exact bnd sub rfl
theorem row_spec (k : Nat) (D : CallF) {r c b i : Nat} (h : AHeap) (hi : i < r) (hc : 0 < c) (hs : r * c ≤ 100000) :
    ∃ h', matrix_M_row k D (r, c, whole b (r * c)) i h = some (rowOf b c i, h') ∧ Keeps h h' ∧ h'.next = h.next + 1 := row_specS k D rfl h hi hc hs
theorem rowOf_idx {b c i j : Nat} (hj : j < c) : idxL 1 (rowOf b c i) (j : Int) = some ⟨b, i * c + j, none⟩ := by
  unfold rowOf
  rw [idxL_of (by omega)]
  simp
theorem whole_idx {b N t : Nat} {sp : Option Nat} (ht : t < N) : idxL 1 (whole b N sp) (t : Int) = some ⟨b, t, none⟩ := by
  unfold whole
  rw [idxL_of (by omega)]
  simp
end Gz
namespace Gz
open Go Gx Go.Proofs
structure Spc (h : AHeap) (sb fb : Nat) : Prop where
  sp : h.get sb = some (.cells [.pointer (some ⟨fb, 0, none⟩)] 123 true 0)
  fld : Fld h fb
  ne : sb ≠ fb
  ls : sb < h.next
  lf : fb < h.next
theorem Spc.chg {S : Nat → Prop} {h h' : AHeap} {sb fb : Nat} (s : Spc h sb fb) (c : Chg S h h') (h1 : ¬ S sb) (h2 : ¬ S fb) : Spc h' sb fb :=
  ⟨by rw [c.oth sb s.ls h1]; exact s.sp, fldchg s.fld s.lf c h2, s.ne, Nat.lt_of_lt_of_le s.ls c.nx, Nat.lt_of_lt_of_le s.lf c.nx⟩
theorem Spc.keeps {h h' : AHeap} {sb fb : Nat} (s : Spc h sb fb) (c : Keeps h h') : Spc h' sb fb := s.chg c (fun f => f) (fun f => f)
theorem Spc.fs {h h' : AHeap} {sb fb : Nat} (s : Spc h sb fb) (c : FS fb h h') : Spc h' sb fb :=
  ⟨by rw [c.oth sb s.ls s.ne]; exact s.sp, c.fld, s.ne, Nat.lt_of_lt_of_le s.ls c.nx, Nat.lt_of_lt_of_le s.lf c.nx⟩
theorem Spc.ld {h : AHeap} {sb fb : Nat} (s : Spc h sb fb) : ldP ⟨sb, 0, none⟩ h = some (some ⟨fb, 0, none⟩) := by simp [ldP, AHeap.rd1, s.sp, decP]
theorem mnew_spec (k : Nat) (D : CallF) (h : AHeap) : ∃ h', matrix_New k D h = some (some ⟨h.next + 1, 0, none⟩, h') ∧ Keeps h h' ∧ Spc h' (h.next + 1) h.next ∧ h'.next = h.next + 2 := by
  refine ⟨(h.new (.cells fresh 143 true 0)).new (.cells [.pointer (some ⟨h.next, 0, none⟩)] 123 true 0), ?_, (Keeps.new h _).trans (Keeps.new _ _), ⟨by simp, ?_, by omega, by simp, by simp; omega⟩, by simp⟩
  · unfold matrix_New
    exact bnd (new_spec _ _ _) rfl
  · exact ⟨fresh, by simp, .inl rfl⟩
def cau (k : Nat) (t : Nat) : Int := if t / k < k then (if t / k = t % k then 1 else 0) else (divT 1 ((t / k) ^^^ (t % k)) : Nat)
theorem pos_div {i j k : Nat} (hj : j < k) : (i * k + j) / k = i := by
  rw [Nat.add_comm, Nat.add_mul_div_right _ _ (by omega), Nat.div_eq_of_lt hj, Nat.zero_add]
theorem pos_mod {i j k : Nat} (hj : j < k) : (i * k + j) % k = j := by
  rw [Nat.add_comm, Nat.add_mul_mod_self_right, Nat.mod_eq_of_lt hj]
theorem cau_at {i j k : Nat} (hj : j < k) : cau k (i * k + j) = if i < k then (if i = j then (1 : Int) else 0) else ((divT 1 (i ^^^ j) : Nat) : Int) := by
  unfold cau
  rw [pos_div hj, pos_mod hj]
theorem xor_ne {i j : Nat} (h : i ≠ j) : i ^^^ j ≠ 0 := fun e => h (by
  have : i ^^^ (i ^^^ j) = i := by rw [e, Nat.xor_zero]
  rw [← Nat.xor_assoc, Nat.xor_self, Nat.zero_xor] at this
  exact this.symm)
theorem xor64' {i j : Nat} (hi : i < 256) (hj : j < 256) : Go.bits .xor .i64 (i : Int) (j : Int) = ((i ^^^ j : Nat) : Int) := xor64 (by omega) (by omega)
structure Fil (H0 : AHeap) (B ob sb fb N : Nat) (r c : Int) (e : TypeId) (f : Nat → Int) (h : AHeap) : Prop where
  blk : h.get B = some (outB encI 3 (mat N f))
  obk : h.get ob = some (.cells (mcell r c (whole B N)) e true 0)
  spc : Spc h sb fb
  lb : B < h.next
  lo : ob < h.next
  ne : B ≠ ob ∧ B ≠ sb ∧ B ≠ fb ∧ ob ≠ fb ∧ ob ≠ sb
  ch : Chg (fun x => x = B ∨ x = fb) H0 h
theorem Fil.keeps {H0 : AHeap} {B ob sb fb N : Nat} {r c : Int} {e : TypeId} {f : Nat → Int} {h h' : AHeap} (F : Fil H0 B ob sb fb N r c e f h) (k : Keeps h h') : Fil H0 B ob sb fb N r c e f h' :=
  ⟨by rw [k.oth B F.lb (fun f => f)]; exact F.blk, by rw [k.oth ob F.lo (fun f => f)]; exact F.obk, F.spc.keeps k, Nat.lt_of_lt_of_le F.lb k.nx, Nat.lt_of_lt_of_le F.lo k.nx, F.ne, F.ch.trans (Chg.keeps k)⟩
theorem Fil.fs {H0 : AHeap} {B ob sb fb N : Nat} {r c : Int} {e : TypeId} {f : Nat → Int} {h h' : AHeap} (F : Fil H0 B ob sb fb N r c e f h) (k : FS fb h h') : Fil H0 B ob sb fb N r c e f h' :=
  ⟨by rw [k.oth B F.lb F.ne.2.2.1]; exact F.blk, by rw [k.oth ob F.lo F.ne.2.2.2.1]; exact F.obk, F.spc.fs k, Nat.lt_of_lt_of_le F.lb k.nx, Nat.lt_of_lt_of_le F.lo k.nx, F.ne, F.ch.trans (k.chg.wk fun x _ e => .inr e)⟩
theorem Fil.put {H0 : AHeap} {B ob sb fb N : Nat} {r c : Int} {e : TypeId} {f : Nat → Int} {h : AHeap} (F : Fil H0 B ob sb fb N r c e f h) (g : Nat → Int) : Fil H0 B ob sb fb N r c e g (h.set B (outB encI 3 (mat N g))) :=
  ⟨by simp, by rw [AHeap.get_set, if_neg (fun x => F.ne.1 x.symm)]; exact F.obk, F.spc.chg (Chg.set (S := (· = B)) (.inr rfl)) (fun x => F.ne.2.1 x.symm) (fun x => F.ne.2.2.1 x.symm), F.lb, F.lo, F.ne, F.ch.trans (Chg.set (.inr (.inl rfl)))⟩
theorem Fil.congr {H0 : AHeap} {B ob sb fb N : Nat} {r c : Int} {e : TypeId} {f g : Nat → Int} {h : AHeap} (F : Fil H0 B ob sb fb N r c e f h) (hg : ∀ t, t < N → f t = g t) : Fil H0 B ob sb fb N r c e g h :=
  ⟨by rw [← mat_ext hg]; exact F.blk, F.obk, F.spc, F.lb, F.lo, F.ne, F.ch⟩
theorem cau_l1 {k0 : Nat} (hk : 1000 ≤ k0) {H0 : AHeap} {B ob sb fb k R i : Nat} (hk1 : 0 < k) (hR : R ≤ 255) (hkR : k ≤ R) (hi : i < R) (y : Option Addr) (a b : Int) : ∀ (m j : Nat) (h : AHeap), j + m = k → Fil H0 B ob sb fb (R * k) R k 84 (fun s => if s < i * k + j then cau k s else 0) h →
    ∃ h', Fil H0 B ob sb fb (R * k) R k 84 (fun s => if s < i * k + k then cau k s else 0) h' ∧
      ∀ jj bot, iterK bot (m + 1) (matrix_Space_Cauchy_l1b k0 (DD k0) jj) (some ⟨sb, 0, none⟩) (k : Int) y (some ⟨ob, 0, none⟩) (i : Int) a b (k : Int) (j : Int) h = jj (some ⟨sb, 0, none⟩) (k : Int) y (some ⟨ob, 0, none⟩) a b h' := by
  intro m
  induction m with
  | zero =>
    intro j h hj F
    obtain rfl : j = k := by omega
    exact ⟨h, F, fun jj bot => by rw [iterK_s, matrix_Space_Cauchy_l1b]; exact ifn (by simp) rfl⟩
  | succ m ih =>
    intro j h hj F
    have hj' : j < k := by omega
    have le : (i + 1) * k ≤ R * k := Nat.mul_le_mul_right k hi
    have e0 : (i + 1) * k = i * k + k := Nat.succ_mul i k
    have hN : R * k ≤ 100000 := Nat.le_trans (Nat.mul_le_mul hR (Nat.le_trans hkR hR)) (by omega)
    have hpos : i * k + j < R * k := by omega
    have step : ∀ (h1 : AHeap) (x : Int), Fil H0 B ob sb fb (R * k) R k 84 (fun s => if s < i * k + j then cau k s else 0) h1 → x = cau k (i * k + j) → Fil H0 B ob sb fb (R * k) R k 84 (fun s => if s < i * k + (j + 1) then cau k s else 0) (h1.set B (outB encI 3 (mat (R * k) (upd (fun s => if s < i * k + j then cau k s else 0) (i * k + j) x)))) := fun h1 x F1 hx =>
      (F1.put _).congr fun t ht => by
        simp only [upd]
        by_cases e : t = i * k + j
        · rw [if_pos e, if_pos (by omega), hx, e]
        · rw [if_neg e]
          by_cases e2 : t < i * k + j
          · rw [if_pos e2, if_pos (by omega)]
          · rw [if_neg e2, if_neg (by omega)]
    have w := w1 (i := j) (by omega)
    by_cases c1 : i < k
    · by_cases c2 : i = j
      · -- one
        obtain ⟨h1, e1, k1, _⟩ := row_spec k0 (DD k0) (r := R) (c := k) (b := B) (i := i) h hi hk1 hN
        have F1 := F.keeps k1
        obtain ⟨h', F', e'⟩ := ih (j + 1) _ (by omega) (step h1 1 F1 (by rw [cau_at hj', if_pos c1, if_pos c2]))
        refine ⟨h', F', fun jj bot => ?_⟩
        rw [iterK_s, matrix_Space_Cauchy_l1b]
        refine ifp (by simp; omega) ?_
        refine jn (jn ?_)
        refine ifp (by simp; omega) ?_
        refine ifp (by simp [c2]) ?_
        refine bnd rfl (bnd (ldM3 F.obk) (bnd (decM3 _ _ _) ?_))
        refine bnd e1 ?_
        refine bnd (rowOf_idx hj') ?_
        refine bnd (stI_out 1 F1.blk hpos) ?_
        dsimp only
        rw [w]
        exact e' jj bot
      · -- nothing
        have F1 : Fil H0 B ob sb fb (R * k) R k 84 (fun s => if s < i * k + (j + 1) then cau k s else 0) h := F.congr fun t ht => by
          by_cases e : t = i * k + j
          · rw [if_neg (by omega), if_pos (by omega), e]
            rw [cau_at hj', if_pos c1, if_neg c2]
          · by_cases e2 : t < i * k + j
            · rw [if_pos e2, if_pos (by omega)]
            · rw [if_neg e2, if_neg (by omega)]
        obtain ⟨h', F', e'⟩ := ih (j + 1) h (by omega) F1
        refine ⟨h', F', fun jj bot => ?_⟩
        rw [iterK_s, matrix_Space_Cauchy_l1b]
        refine ifp (by simp; omega) ?_
        refine jn (jn ?_)
        refine ifp (by simp; omega) ?_
        refine ifn (by simp; omega) ?_
        refine ifn (by simp; omega) ?_
        dsimp only
        rw [w]
        exact e' jj bot
    · -- a quotient
      obtain ⟨h1, e1, k1, _⟩ := row_spec k0 (DD k0) (r := R) (c := k) (b := B) (i := i) h hi hk1 hN
      have F1 := F.keeps k1
      have x0 := xor_ne (i := i) (j := j) (by omega)
      have xlt : i ^^^ j < 256 := xor_lt (by omega) (by omega)
      obtain ⟨h2, e2, s2⟩ := div_spec (k := k0) (by omega) F1.spc.fld F1.spc.lf (x := 1) (y := i ^^^ j) (by omega) xlt
      rw [if_neg x0] at e2
      have F2 := F1.fs s2
      obtain ⟨h', F', e'⟩ := ih (j + 1) _ (by omega) (step h2 (divT 1 (i ^^^ j) : Nat) F2 (by rw [cau_at hj', if_neg c1]))
      refine ⟨h', F', fun jj bot => ?_⟩
      rw [iterK_s, matrix_Space_Cauchy_l1b]
      refine ifp (by simp; omega) ?_
      refine jn (jn ?_)
      refine ifn (by simp; omega) ?_
      refine ifn (by simp) ?_
      refine ifp (by simp; omega) ?_
      refine bnd rfl (bnd (ldM3 F.obk) (bnd (decM3 _ _ _) ?_))
      refine bnd e1 ?_
      refine bnd rfl (bnd F1.spc.ld ?_)
      refine gp (fun H hH => by simp at hH; subst hH; exact bnd F.spc.ld rfl) ?_
      rw [xor64' (by omega) (by omega)]
      refine bnd e2 ?_
      refine bnd (rowOf_idx hj') ?_
      refine bnd (stI_out _ F2.blk hpos) ?_
      dsimp only
      rw [w]
      exact e' jj bot
theorem cau_l0 {k0 : Nat} (hk : 1000 ≤ k0) {H0 : AHeap} {B ob sb fb k R : Nat} (hk1 : 0 < k) (hR : R ≤ 255) (hkR : k ≤ R) (y : Option Addr) : ∀ (m i : Nat) (h : AHeap), i + m = R → Fil H0 B ob sb fb (R * k) R k 84 (fun s => if s < i * k then cau k s else 0) h →
    ∃ h', Fil H0 B ob sb fb (R * k) R k 84 (cau k) h' ∧
      ∀ jj bot, iterK bot (m + 1) (matrix_Space_Cauchy_l0b k0 (DD k0) jj) (some ⟨sb, 0, none⟩) (k : Int) y (some ⟨ob, 0, none⟩) (R : Int) (i : Int) h = jj y (some ⟨ob, 0, none⟩) h' := by
  intro m
  induction m with
  | zero =>
    intro i h hi F
    obtain rfl : i = R := by omega
    refine ⟨h, F.congr fun t ht => by rw [if_pos ht], fun jj bot => ?_⟩
    rw [iterK_s, matrix_Space_Cauchy_l0b]; exact ifn (by simp) rfl
  | succ m ih =>
    intro i h hi F
    obtain ⟨h1, F1, e1⟩ := cau_l1 hk hk1 hR hkR (show i < R by omega) y (R : Int) (i : Int) k 0 h (by omega) F
    have e0 : (i + 1) * k = i * k + k := Nat.succ_mul i k
    obtain ⟨h', F', e'⟩ := ih (i + 1) h1 (by omega) (by rw [e0]; exact F1)
    refine ⟨h', F', fun jj bot => ?_⟩
    rw [iterK_s, matrix_Space_Cauchy_l0b]
    refine ifp (by simp; omega) ?_
    refine jn ?_
    unfold matrix_Space_Cauchy_l1
    obtain ⟨bot1, hbot1⟩ := iterK_of (fun _ _ _ _ _ _ _ _ _ _ => none) (matrix_Space_Cauchy_l1b k0 (DD k0) _) (show k + 1 ≤ k0 by omega)
    rw [hbot1]
    refine (e1 _ bot1).trans ?_
    rw [w1 (by omega)]
    exact e' jj bot
structure MadeM (h h' : AHeap) (fb B N : Nat) (f : Nat → Int) : Prop where
  blk : h'.get B = some (outB encI 3 (mat N f))
  lb : B < h'.next
  nb : h.next ≤ B
  ch : Chg (· = fb) h h'
theorem cauchy_spec {k0 : Nat} (hk : 1000 ≤ k0) {h : AHeap} {sb fb k m : Nat} (S : Spc h sb fb) (hk1 : 0 < k) (hR : k + m ≤ 255) :
    ∃ h' B, matrix_Space_Cauchy k0 (DD k0) (some ⟨sb, 0, none⟩) k m h = some (((((k + m : Nat) : Int), (k : Int), whole B ((k + m) * k)), 0), h') ∧ Spc h' sb fb ∧ MadeM h h' fb B ((k + m) * k) (cau k) := by
  obtain ⟨g1, hg1⟩ : ∃ g1, g1 = h.new (.cells [.int .i64 0, .int .i64 0, .slice none 0 0] 84 true 0) := ⟨_, rfl⟩
  have k1 : Keeps h g1 := hg1 ▸ Keeps.new h _
  have n1 : g1.next = h.next + 1 := by rw [hg1]; rfl
  have y1 : g1.get h.next = some (.cells [.int .i64 0, .int .i64 0, .slice none 0 0] 84 true 0) := by rw [hg1]; simp
  have hN : (k + m) * k ≤ 100000 := Nat.le_trans (Nat.mul_le_mul hR (show k ≤ 255 by omega)) (by omega)
  obtain ⟨g2, e2, k2, n2, b2⟩ := blank_spec k0 (DD k0) (k + m) k g1 hN
  obtain ⟨g3, hg3⟩ : ∃ g3, g3 = g2.new (.cells [.int .i64 0, .int .i64 0, .slice none 0 0] 84 true 0) := ⟨_, rfl⟩
  have k3 : Keeps g2 g3 := hg3 ▸ Keeps.new g2 _
  have n3 : g3.next = g2.next + 1 := by rw [hg3]; rfl
  have o3 : g3.get g2.next = some (.cells [.int .i64 0, .int .i64 0, .slice none 0 0] 84 true 0) := by rw [hg3]; simp
  obtain ⟨g4, hg4⟩ : ∃ g4, g4 = g3.set g2.next (.cells (mcell ((k + m : Nat) : Int) k (whole (g1.next + 1) ((k + m) * k))) 84 true 0) := ⟨_, rfl⟩
  have n4 : g4.next = g3.next := by rw [hg4]; rfl
  have st3 : stL 3 ⟨g2.next, 0, none⟩ (mcell ((k + m : Nat) : Int) k (whole (g1.next + 1) ((k + m) * k))) g3 = some g4 := by rw [hg4]; exact stM3 o3 rfl
  have k04 : Keeps h g4 := ((k1.trans k2).trans k3).beh (T := (· = g2.next)) (hg4 ▸ Chg.set (.inr rfl)) fun x hx e => by
    have e : x = g2.next := e
    omega
  have S4 := S.keeps k04
  have b4 : g4.get (g1.next + 1) = some (outB encI 3 (mat ((k + m) * k) fun _ => 0)) := by
    rw [hg4, AHeap.get_set, if_neg (by omega), k3.oth _ (by omega) (fun f => f)]; exact b2
  have y4 : g4.get h.next = some (.cells [.int .i64 0, .int .i64 0, .slice none 0 0] 84 true 0) := by
    rw [hg4, AHeap.get_set, if_neg (by omega), k3.oth _ (by omega) (fun f => f), k2.oth _ (by omega) (fun f => f)]; exact y1
  have F4 : Fil g4 (g1.next + 1) g2.next sb fb ((k + m) * k) ((k + m : Nat) : Int) k 84 (fun s => if s < 0 * k then cau k s else 0) g4 := by
    have := S.ls; have := S.lf
    refine ⟨by rw [mat_ext (g := fun _ => 0) (fun t ht => by rw [if_neg (by omega)])]; exact b4, by rw [hg4]; simp, S4, by omega, by omega, ⟨by omega, by omega, by omega, by omega, by omega⟩, .refl _ _⟩
  obtain ⟨g5, F5, e5⟩ := cau_l0 hk hk1 hR (Nat.le_add_right k m) (some ⟨h.next, 0, none⟩) (k + m) 0 g4 (by omega) F4
  have y5 : g5.get h.next = some (.cells [.int .i64 0, .int .i64 0, .slice none 0 0] 84 true 0) := by
    rw [F5.ch.oth h.next (by omega) (fun e => by have := S.lf; omega)]; exact y4
  refine ⟨g5.set h.next (.cells (mcell ((k + m : Nat) : Int) k (whole (g1.next + 1) ((k + m) * k))) 84 true 0), g1.next + 1, ?_, ?_, ?_⟩
  · unfold matrix_Space_Cauchy
    have w : IntKind.wrap .i64 ((k : Int) + (m : Int)) = ((k + m : Nat) : Int) := by rw [w64 _ (by omega)]; omega
    have w2 : IntKind.wrap .i64 (255 - (k : Int)) = 255 - (k : Int) := w64 _ (by omega)
    dsimp only
    rw [← hg1]
    refine jn ?_
    refine ifn (by simp; omega) ?_
    refine ifn (by rw [decide_eq_true_eq]; omega) ?_
    refine ifn (by simp; omega) ?_
    rw [w2]
    refine ifn (by simp; omega) ?_
    rw [w]
    refine bnd e2 ?_
    dsimp only
    rw [← hg3]
    refine bnd st3 ?_
    refine jn ?_
    unfold matrix_Space_Cauchy_l0
    obtain ⟨bot, hbot⟩ := iterK_of (fun _ _ _ _ _ _ _ => none) (matrix_Space_Cauchy_l0b k0 (DD k0) _) (show (k + m) + 1 ≤ k0 by omega)
    rw [hbot]
    refine (e5 _ bot).trans ?_
    refine bnd rfl (bnd (ldM3 F5.obk) (bnd (decM3 _ _ _) ?_))
    refine bnd rfl ?_
    refine bnd (stM3 (r := ((k + m : Nat) : Int)) (c := k) (s := whole (g1.next + 1) ((k + m) * k)) y5 rfl) ?_
    refine bnd rfl ?_
    refine bnd (ldM3 (r := ((k + m : Nat) : Int)) (c := k) (s := whole (g1.next + 1) ((k + m) * k)) (e := 84) (rw' := true) (fz := 0) (by simp)) ?_
    exact bnd (decM3 _ _ _) rfl
  · exact F5.spc.chg (Chg.set (S := (· = h.next)) (.inr rfl)) (fun e => by have := S.ls; have e : sb = h.next := e; omega) (fun e => by have := S.lf; have e : fb = h.next := e; omega)
  · refine ⟨by rw [AHeap.get_set, if_neg (by omega)]; exact F5.blk, F5.lb, by omega, ?_⟩
    have c1 : Chg (· = fb) h g5 := (Chg.keeps k04).beh F5.ch fun x hx e => by
      rcases e with e | e
      · omega
      · exact e
    exact c1.beh (T := (· = h.next)) (.set (.inr rfl)) fun x hx e => by
      have e : x = h.next := e
      omega
theorem rover_spec {k : Nat} (hk : 256 ≤ k) (D : CallF) {a b : Nat} (ha : a < 256) (hb : b < 256) (b0 : b ≠ 0) (h : AHeap) : ref03_Over k D (a : Int) (b : Int) h = some ((divT a b : Int), h) := by
  unfold ref03_Over
  refine jn ?_
  unfold ref03_Over_l0
  have hlt := divT_lt (x := a) (y := b)
  obtain ⟨bot, hbot⟩ := iterK_of (fun _ _ _ _ => none) (ref03_Over_l0b k D fun h1 => some (0, h1)) (show divT a b + 1 ≤ k by omega)
  rw [hbot]
  exact over_loop k (by omega) D (fun h1 => some (0, h1)) bot ha hb b0 h (divT a b) 0 (by omega)
def cauP (k j R : Nat) (t : Nat) : Int := if t % k < j ∨ (t % k = j ∧ t / k < R) then cau k t else 0
theorem rcau_l1 {k0 : Nat} (hk : 1000 ≤ k0) {D : CallF} {H0 : AHeap} {B ob k m j : Nat} (hj : j < k) (hR : k + m ≤ 255) (y : Option Addr) : ∀ (n i : Nat) (h : AHeap), i + n = m →
    h.get B = some (outB encI 3 (mat ((k + m) * k) (cauP k j (k + i)))) → h.get ob = some (.cells (mcell ((k + m : Nat) : Int) k (whole B ((k + m) * k))) 97 true 0) → B ≠ ob → Chg (· = B) H0 h →
    ∃ h', h'.get B = some (outB encI 3 (mat ((k + m) * k) (cauP k j (k + m)))) ∧ h'.get ob = some (.cells (mcell ((k + m : Nat) : Int) k (whole B ((k + m) * k))) 97 true 0) ∧ Chg (· = B) H0 h' ∧ h'.next = h.next ∧
      ∀ jj bot, iterK bot (n + 1) (ref04_Cauchy_l1b k0 D jj) (k : Int) (m : Int) y (some ⟨ob, 0, none⟩) (j : Int) (i : Int) h = jj (k : Int) (m : Int) y (some ⟨ob, 0, none⟩) (j : Int) h' := by
  intro n
  induction n with
  | zero =>
    intro i h hi hb ho hne hc
    obtain rfl : i = m := by omega
    exact ⟨h, hb, ho, hc, rfl, fun jj bot => by rw [iterK_s, ref04_Cauchy_l1b]; exact ifn (by simp) rfl⟩
  | succ n ih =>
    intro i h hi hb ho hne hc
    have le : (k + i + 1) * k ≤ (k + m) * k := Nat.mul_le_mul_right k (by omega)
    have e0 : (k + i + 1) * k = (k + i) * k + k := Nat.succ_mul (k + i) k
    have hN : (k + m) * k ≤ 100000 := Nat.le_trans (Nat.mul_le_mul hR (show k ≤ 255 by omega)) (by omega)
    have hpos : (k + i) * k + j < (k + m) * k := by omega
    have x0 := xor_ne (i := k + i) (j := j) (by omega)
    have xlt : (k + i) ^^^ j < 256 := xor_lt (by omega) (by omega)
    have upd' : ∀ t, t < (k + m) * k → upd (cauP k j (k + i)) ((k + i) * k + j) (divT 1 ((k + i) ^^^ j) : Nat) t = cauP k j (k + (i + 1)) t := fun t ht => by
      simp only [upd]
      by_cases e : t = (k + i) * k + j
      · subst e
        rw [if_pos rfl]
        unfold cauP
        rw [pos_div hj, pos_mod hj, if_pos (.inr ⟨rfl, by omega⟩), cau_at hj, if_neg (by omega)]
      · rw [if_neg e]
        unfold cauP
        have hdm := Nat.div_add_mod t k
        by_cases c1 : t % k = j
        · have : t / k ≠ k + i := fun e2 => e (by rw [← hdm, e2, c1, Nat.mul_comm])
          by_cases c2 : t / k < k + i
          · rw [if_pos (.inr ⟨c1, c2⟩), if_pos (.inr ⟨c1, by omega⟩)]
          · rw [if_neg (by omega), if_neg (by omega)]
        · by_cases c2 : t % k < j
          · rw [if_pos (.inl c2), if_pos (.inl c2)]
          · rw [if_neg (by omega), if_neg (by omega)]
    obtain ⟨h', b', o', c', n', e'⟩ := ih (i + 1) (h.set B (outB encI 3 (mat ((k + m) * k) (upd (cauP k j (k + i)) ((k + i) * k + j) (divT 1 ((k + i) ^^^ j) : Nat))))) (by omega)
      (by rw [mat_ext (fun t ht => (upd' t ht).symm)]; simp) (by rw [AHeap.get_set, if_neg (fun e => hne e.symm)]; exact ho) hne (hc.trans (Chg.set (.inr rfl)))
    refine ⟨h', b', o', c', n', fun jj bot => ?_⟩
    rw [iterK_s, ref04_Cauchy_l1b]
    refine ifp (by rw [decide_eq_true_eq]; omega) ?_
    have w : IntKind.wrap .i64 ((k : Int) + (i : Int)) = ((k + i : Nat) : Int) := by rw [w64 _ (by omega)]; omega
    have w2 : IntKind.wrap .i64 (((k + i : Nat) : Int) * (k : Int)) = (((k + i) * k : Nat) : Int) := by
      rw [show ((k + i : Nat) : Int) * (k : Int) = (((k + i) * k : Nat) : Int) by simp]
      exact w64 _ (by omega)
    have w3 : IntKind.wrap .i64 ((((k + i) * k : Nat) : Int) + (j : Int)) = (((k + i) * k + j : Nat) : Int) := by rw [w64 _ (by omega)]; omega
    rw [w, xor64' (by omega) (by omega)]
    refine bnd (rover_spec (k := k0) (by omega) D (a := 1) (by omega) xlt x0 h) ?_
    refine bnd rfl (bnd (ldL2 ho) ?_)
    refine gp (fun H hH => by simp at hH; subst hH; exact bnd (ldL2 ho) rfl) ?_
    rw [w2]
    dsimp only
    rw [w3]
    refine bnd (whole_idx hpos) ?_
    refine bnd (stI_out _ hb hpos) ?_
    rw [w1 (by omega)]
    exact e' jj bot
theorem rcau_l0 {k0 : Nat} (hk : 1000 ≤ k0) {D : CallF} {H0 : AHeap} {B ob k m : Nat} (hk1 : 0 < k) (hR : k + m ≤ 255) (y : Option Addr) : ∀ (n j : Nat) (h : AHeap), j + n = k →
    h.get B = some (outB encI 3 (mat ((k + m) * k) (fun t => if t % k < j then cau k t else 0))) → h.get ob = some (.cells (mcell ((k + m : Nat) : Int) k (whole B ((k + m) * k))) 97 true 0) → B ≠ ob → Chg (· = B) H0 h →
    ∃ h', h'.get B = some (outB encI 3 (mat ((k + m) * k) (cau k))) ∧ h'.get ob = some (.cells (mcell ((k + m : Nat) : Int) k (whole B ((k + m) * k))) 97 true 0) ∧ Chg (· = B) H0 h' ∧ h'.next = h.next ∧
      ∀ jj bot, iterK bot (n + 1) (ref04_Cauchy_l0b k0 D jj) (k : Int) (m : Int) y (some ⟨ob, 0, none⟩) (j : Int) h = jj y (some ⟨ob, 0, none⟩) h' := by
  intro n
  induction n with
  | zero =>
    intro j h hj hb ho hne hc
    obtain rfl : j = k := by omega
    refine ⟨h, ?_, ho, hc, rfl, fun jj bot => by rw [iterK_s, ref04_Cauchy_l0b]; exact ifn (by simp) rfl⟩
    rw [hb, mat_ext (fun t ht => by rw [if_pos (Nat.mod_lt t hk1)])]
  | succ n ih =>
    intro j h hj hb ho hne hc
    have hj' : j < k := by omega
    have hN : (k + m) * k ≤ 100000 := Nat.le_trans (Nat.mul_le_mul hR (show k ≤ 255 by omega)) (by omega)
    have le : (j + 1) * k ≤ (k + m) * k := Nat.mul_le_mul_right k (by omega)
    have e0 : (j + 1) * k = j * k + k := Nat.succ_mul j k
    have hpos : j * k + j < (k + m) * k := by omega
    have upd' : ∀ t, t < (k + m) * k → upd (fun t => if t % k < j then cau k t else 0) (j * k + j) 1 t = cauP k j (k + 0) t := fun t ht => by
      simp only [upd]
      by_cases e : t = j * k + j
      · subst e
        rw [if_pos rfl]
        unfold cauP
        rw [pos_div hj', pos_mod hj', if_pos (.inr ⟨rfl, by omega⟩), cau_at hj', if_pos hj', if_pos rfl]
      · rw [if_neg e]
        unfold cauP
        have hdm := Nat.div_add_mod t k
        by_cases c1 : t % k = j
        · rw [if_neg (by omega)]
          by_cases c2 : t / k < k
          · rw [if_pos (.inr ⟨c1, by omega⟩)]
            have : t / k ≠ j := fun e2 => e (by rw [← hdm, e2, c1, Nat.mul_comm])
            unfold cau
            rw [if_pos c2, if_neg (by omega)]
          · rw [if_neg (by omega)]
        · by_cases c2 : t % k < j
          · rw [if_pos c2, if_pos (.inl c2)]
          · rw [if_neg c2, if_neg (by omega)]
    obtain ⟨h1, b1, o1, c1, n1, e1⟩ := rcau_l1 (D := D) hk hj' hR y m 0 (h.set B (outB encI 3 (mat ((k + m) * k) (upd (fun t => if t % k < j then cau k t else 0) (j * k + j) 1)))) (by omega)
      (by rw [mat_ext (fun t ht => (upd' t ht).symm)]; simp) (by rw [AHeap.get_set, if_neg (fun e => hne e.symm)]; exact ho) hne (hc.trans (Chg.set (.inr rfl)))
    have b1' : h1.get B = some (outB encI 3 (mat ((k + m) * k) (fun t => if t % k < j + 1 then cau k t else 0))) := by
      rw [b1, mat_ext (g := fun t => if t % k < j + 1 then cau k t else 0) (fun t ht => by
        unfold cauP
        have : t / k < k + m := (Nat.div_lt_iff_lt_mul hk1).2 ht
        by_cases c : t % k < j + 1
        · rw [if_pos (by omega), if_pos c]
        · rw [if_neg (by omega), if_neg c])]
    obtain ⟨h', b', o', c', n', e'⟩ := ih (j + 1) h1 (by omega) b1' o1 hne c1
    refine ⟨h', b', o', c', n'.trans n1, fun jj bot => ?_⟩
    rw [iterK_s, ref04_Cauchy_l0b]
    refine ifp (by rw [decide_eq_true_eq]; omega) ?_
    refine jn ?_
    have w2 : IntKind.wrap .i64 ((j : Int) * (k : Int)) = ((j * k : Nat) : Int) := by
      rw [show (j : Int) * (k : Int) = ((j * k : Nat) : Int) by simp]
      exact w64 _ (by omega)
    have w3 : IntKind.wrap .i64 (((j * k : Nat) : Int) + (j : Int)) = ((j * k + j : Nat) : Int) := by rw [w64 _ (by omega)]; omega
    refine bnd rfl (bnd (ldL2 ho) ?_)
    rw [w2, w3]
    refine bnd (whole_idx hpos) ?_
    refine bnd (stI_out _ hb hpos) ?_
    unfold ref04_Cauchy_l1
    obtain ⟨bot1, hbot1⟩ := iterK_of (fun _ _ _ _ _ _ _ => none) (ref04_Cauchy_l1b k0 D _) (show m + 1 ≤ k0 by omega)
    rw [hbot1]
    refine (e1 _ bot1).trans ?_
    rw [w1 (by omega)]
    exact e' jj bot
structure MadeR (h h' : AHeap) (B N : Nat) (f : Nat → Int) : Prop where
  blk : h'.get B = some (outB encI 3 (mat N f))
  lb : B < h'.next
  nb : h.next ≤ B
  ch : Keeps h h'
theorem rcauchy_spec {k0 : Nat} (hk : 1000 ≤ k0) (D : CallF) {h : AHeap} {k m : Nat} (hk1 : 0 < k) (hR : k + m ≤ 255) :
    ∃ h' B, ref04_Cauchy k0 D k m h = some (((((k + m : Nat) : Int), (k : Int), whole B ((k + m) * k)), 0), h') ∧ MadeR h h' B ((k + m) * k) (cau k) := by
  obtain ⟨g1, hg1⟩ : ∃ g1, g1 = h.new (.cells [.int .i64 0, .int .i64 0, .slice none 0 0] 97 true 0) := ⟨_, rfl⟩
  have k1 : Keeps h g1 := hg1 ▸ Keeps.new h _
  have n1 : g1.next = h.next + 1 := by rw [hg1]; rfl
  have y1 : g1.get h.next = some (.cells [.int .i64 0, .int .i64 0, .slice none 0 0] 97 true 0) := by rw [hg1]; simp
  have hN : (k + m) * k ≤ 100000 := Nat.le_trans (Nat.mul_le_mul hR (show k ≤ 255 by omega)) (by omega)
  obtain ⟨g2, e2, k2, n2, b2⟩ := zero_spec k0 D (k + m) k g1 hN
  obtain ⟨g3, hg3⟩ : ∃ g3, g3 = g2.new (.cells [.int .i64 0, .int .i64 0, .slice none 0 0] 97 true 0) := ⟨_, rfl⟩
  have k3 : Keeps g2 g3 := hg3 ▸ Keeps.new g2 _
  have n3 : g3.next = g2.next + 1 := by rw [hg3]; rfl
  have o3 : g3.get g2.next = some (.cells [.int .i64 0, .int .i64 0, .slice none 0 0] 97 true 0) := by rw [hg3]; simp
  obtain ⟨g4, hg4⟩ : ∃ g4, g4 = g3.set g2.next (.cells (mcell ((k + m : Nat) : Int) k (whole (g1.next + 1) ((k + m) * k))) 97 true 0) := ⟨_, rfl⟩
  have n4 : g4.next = g3.next := by rw [hg4]; rfl
  have st3 : stL 3 ⟨g2.next, 0, none⟩ (mcell ((k + m : Nat) : Int) k (whole (g1.next + 1) ((k + m) * k))) g3 = some g4 := by rw [hg4]; exact stM3 o3 rfl
  have k04 : Keeps h g4 := ((k1.trans k2).trans k3).beh (T := (· = g2.next)) (hg4 ▸ Chg.set (.inr rfl)) fun x hx e => by
    have e : x = g2.next := e
    omega
  have b4 : g4.get (g1.next + 1) = some (outB encI 3 (mat ((k + m) * k) fun _ => 0)) := by
    rw [hg4, AHeap.get_set, if_neg (by omega), k3.oth _ (by omega) (fun f => f)]; exact b2
  have y4 : g4.get h.next = some (.cells [.int .i64 0, .int .i64 0, .slice none 0 0] 97 true 0) := by
    rw [hg4, AHeap.get_set, if_neg (by omega), k3.oth _ (by omega) (fun f => f), k2.oth _ (by omega) (fun f => f)]; exact y1
  obtain ⟨g5, b5, o5, c5, n5, e5⟩ := rcau_l0 (D := D) (H0 := g4) (B := g1.next + 1) (ob := g2.next) hk hk1 hR (some ⟨h.next, 0, none⟩) k 0 g4 (by omega)
    (by rw [mat_ext (g := fun _ => 0) (fun t ht => by rw [if_neg (by omega)])]; exact b4) (by rw [hg4]; simp) (by omega) (.refl _ _)
  have y5 : g5.get h.next = some (.cells [.int .i64 0, .int .i64 0, .slice none 0 0] 97 true 0) := by
    rw [c5.oth h.next (by omega) (by omega)]; exact y4
  refine ⟨g5.set h.next (.cells (mcell ((k + m : Nat) : Int) k (whole (g1.next + 1) ((k + m) * k))) 97 true 0), g1.next + 1, ?_, ?_⟩
  · unfold ref04_Cauchy
    have w : IntKind.wrap .i64 ((k : Int) + (m : Int)) = ((k + m : Nat) : Int) := by rw [w64 _ (by omega)]; omega
    have w2 : IntKind.wrap .i64 (255 - (k : Int)) = 255 - (k : Int) := w64 _ (by omega)
    dsimp only
    rw [← hg1]
    refine jn ?_
    refine ifn (by rw [decide_eq_true_eq]; omega) ?_
    refine ifn (by rw [decide_eq_true_eq]; omega) ?_
    refine ifn (by rw [decide_eq_true_eq]; omega) ?_
    rw [w2]
    refine ifn (by rw [decide_eq_true_eq]; omega) ?_
    rw [w]
    refine bnd e2 ?_
    dsimp only
    rw [← hg3]
    refine bnd st3 ?_
    refine jn ?_
    unfold ref04_Cauchy_l0
    obtain ⟨bot, hbot⟩ := iterK_of (fun _ _ _ _ _ _ => none) (ref04_Cauchy_l0b k0 D _) (show k + 1 ≤ k0 by omega)
    rw [hbot]
    refine (e5 _ bot).trans ?_
    refine bnd rfl (bnd (ldM3 o5) (bnd (decM3 _ _ _) ?_))
    refine bnd rfl ?_
    refine bnd (stM3 (r := ((k + m : Nat) : Int)) (c := k) (s := whole (g1.next + 1) ((k + m) * k)) y5 rfl) ?_
    refine bnd rfl ?_
    refine bnd (ldM3 (r := ((k + m : Nat) : Int)) (c := k) (s := whole (g1.next + 1) ((k + m) * k)) (e := 97) (rw' := true) (fz := 0) (by simp)) ?_
    exact bnd (decM3 _ _ _) rfl
  · refine ⟨by rw [AHeap.get_set, if_neg (by omega)]; exact b5, by simp; omega, by omega, ?_⟩
    have c1 : Keeps h g5 := k04.beh c5 fun x hx e => by omega
    exact c1.beh (T := (· = h.next)) (.set (.inr rfl)) fun x hx e => by
      have e : x = h.next := e
      omega
end Gz
namespace Gz
open Go Gx Go.Proofs
def nilS : Slc := ⟨none, 0, 0⟩
theorem cauchy_no (k0 : Nat) (D : CallF) (s : Option Addr) {k m : Int} (h : AHeap) (hb : k < 1 ∨ m < 0 ∨ k > 255 ∨ m > 255 - k) : ∃ h', matrix_Space_Cauchy k0 D s k m h = some (((0, 0, nilS), 1), h') ∧ Keeps h h' := by
  obtain ⟨g1, hg1⟩ : ∃ g1, g1 = h.new (.cells [.int .i64 0, .int .i64 0, .slice none 0 0] 84 true 0) := ⟨_, rfl⟩
  have k1 : Keeps h g1 := hg1 ▸ Keeps.new h _
  have y1 : g1.get h.next = some (.cells (mcell 0 0 nilS) 84 true 0) := by rw [hg1]; simp [mcell, nilS]
  have fin : ∀ {R : Type} (K : (Int × Int × Slc) → AHeap → Option R), ((some (⟨h.next, 0, none⟩ : Addr)).bind fun p9 => (stL 3 p9 ([.int .i64 0, .int .i64 0, .slice none 0 0]) g1).bind fun h10 => (some (⟨h.next, 0, none⟩ : Addr)).bind fun p11 => (ldA 3 p11 h10).bind fun l12 => (decC [.i .i64, .i .i64, .l] l12).bind fun x13 => K (x13.1, x13.2.1, x13.2.2) h10) = K (0, 0, nilS) g1 := fun K => by
    refine bnd rfl (bnd (stM3 (r := 0) (c := 0) (s := nilS) y1 rfl) ?_)
    rw [set_self y1]
    exact bnd rfl (bnd (ldM3 y1) (bnd (decM3 _ _ _) rfl))
  refine ⟨g1, ?_, k1⟩
  unfold matrix_Space_Cauchy
  dsimp only
  rw [← hg1]
  refine jn ?_
  by_cases c1 : k < 1
  · exact ifp (by rw [decide_eq_true_eq]; exact c1) (ifp rfl (fin fun x h => some ((x, 1), h)))
  · refine ifn (by rw [decide_eq_true_eq]; exact c1) ?_
    by_cases c2 : m < 0
    · exact ifp (by rw [decide_eq_true_eq]; exact c2) (ifp rfl (fin fun x h => some ((x, 1), h)))
    · refine ifn (by rw [decide_eq_true_eq]; exact c2) ?_
      by_cases c3 : k > 255
      · exact ifp (by rw [decide_eq_true_eq]; exact c3) (ifp rfl (fin fun x h => some ((x, 1), h)))
      · refine ifn (by rw [decide_eq_true_eq]; exact c3) ?_
        rw [w64 (255 - k) (by omega)]
        exact ifp (by rw [decide_eq_true_eq]; omega) (fin fun x h => some ((x, 1), h))
theorem rcauchy_no (k0 : Nat) (D : CallF) {k m : Int} (h : AHeap) (hb : k < 1 ∨ m < 0 ∨ k > 255 ∨ m > 255 - k) : ∃ h', ref04_Cauchy k0 D k m h = some (((0, 0, nilS), 1), h') ∧ Keeps h h' := by
  obtain ⟨g1, hg1⟩ : ∃ g1, g1 = h.new (.cells [.int .i64 0, .int .i64 0, .slice none 0 0] 97 true 0) := ⟨_, rfl⟩
  have k1 : Keeps h g1 := hg1 ▸ Keeps.new h _
  have y1 : g1.get h.next = some (.cells (mcell 0 0 nilS) 97 true 0) := by rw [hg1]; simp [mcell, nilS]
  have fin : ∀ {R : Type} (K : (Int × Int × Slc) → AHeap → Option R), ((some (⟨h.next, 0, none⟩ : Addr)).bind fun p9 => (stL 3 p9 ([.int .i64 0, .int .i64 0, .slice none 0 0]) g1).bind fun h10 => (some (⟨h.next, 0, none⟩ : Addr)).bind fun p11 => (ldA 3 p11 h10).bind fun l12 => (decC [.i .i64, .i .i64, .l] l12).bind fun x13 => K (x13.1, x13.2.1, x13.2.2) h10) = K (0, 0, nilS) g1 := fun K => by
    refine bnd rfl (bnd (stM3 (r := 0) (c := 0) (s := nilS) y1 rfl) ?_)
    rw [set_self y1]
    exact bnd rfl (bnd (ldM3 y1) (bnd (decM3 _ _ _) rfl))
  refine ⟨g1, ?_, k1⟩
  unfold ref04_Cauchy
  dsimp only
  rw [← hg1]
  refine jn ?_
  by_cases c1 : k < 1
  · exact ifp (by rw [decide_eq_true_eq]; exact c1) (ifp rfl (fin fun x h => some ((x, 1), h)))
  · refine ifn (by rw [decide_eq_true_eq]; exact c1) ?_
    by_cases c2 : m < 0
    · exact ifp (by rw [decide_eq_true_eq]; exact c2) (ifp rfl (fin fun x h => some ((x, 1), h)))
    · refine ifn (by rw [decide_eq_true_eq]; exact c2) ?_
      by_cases c3 : k > 255
      · exact ifp (by rw [decide_eq_true_eq]; exact c3) (ifp rfl (fin fun x h => some ((x, 1), h)))
      · refine ifn (by rw [decide_eq_true_eq]; exact c3) ?_
        rw [w64 (255 - k) (by omega)]
        exact ifp (by rw [decide_eq_true_eq]; omega) (fin fun x h => some ((x, 1), h))
structure Both (h h' : AHeap) (s : Slc) (xs : List Int) : Prop where
  row : Row encI h' s xs
  off : ∀ a, s.a = some a → h.next ≤ a.block
theorem MadeM.row {h h' : AHeap} {fb B N : Nat} {f : Nat → Int} (M : MadeM h h' fb B N f) : Row encI h' (whole B N) (mat N f) := whole_row M.blk M.lb
theorem MadeR.row {h h' : AHeap} {B N : Nat} {f : Nat → Int} (M : MadeR h h' B N f) : Row encI h' (whole B N) (mat N f) := whole_row M.blk M.lb
theorem mvar {h : AHeap} {e : TypeId} {r c : Int} {s : Slc} : ∃ h', stL 3 ⟨h.next, 0, none⟩ (mcell r c s) (h.new (.cells [.int .i64 0, .int .i64 0, .slice none 0 0] e true 0)) = some h' ∧ Keeps h h' ∧ h'.next = h.next + 1 ∧ h'.get h.next = some (.cells (mcell r c s) e true 0) := by
  refine ⟨_, stM3 (cs := [.int .i64 0, .int .i64 0, .slice none 0 0]) (e := e) (by simp) rfl, ?_, by simp, by simp⟩
  exact new_out _ _ rfl
end Gz
namespace Gz
open Go Gx Go.Proofs
def matN (N : Nat) (g : Nat → Nat) : List Int := mat N fun t => (g t : Int)
structure Mx (h : AHeap) (B N : Nat) (g : Nat → Nat) : Prop where
  blk : h.get B = some (outB encI 3 (matN N g))
  lt : B < h.next
  el : ∀ t, t < N → g t < 256
theorem Mx.chg {S : Nat → Prop} {h h' : AHeap} {B N : Nat} {g : Nat → Nat} (m : Mx h B N g) (c : Chg S h h') (hs : ¬ S B) : Mx h' B N g := ⟨by rw [c.oth B m.lt hs]; exact m.blk, Nat.lt_of_lt_of_le m.lt c.nx, m.el⟩
theorem Mx.keeps {h h' : AHeap} {B N : Nat} {g : Nat → Nat} (m : Mx h B N g) (c : Keeps h h') : Mx h' B N g := m.chg c fun f => f
theorem Mx.congr {h : AHeap} {B N : Nat} {g g' : Nat → Nat} (m : Mx h B N g) (e : ∀ t, t < N → g t = g' t) : Mx h B N g' :=
  ⟨by rw [m.blk]; unfold matN; rw [mat_ext fun t ht => by rw [e t ht]], m.lt, fun t ht => by rw [← e t ht]; exact m.el t ht⟩
theorem Mx.row {h : AHeap} {B N : Nat} {sp : Option Nat} {g : Nat → Nat} (m : Mx h B N g) : Row encI h (whole B N sp) (matN N g) := whole_row m.blk m.lt
theorem Mx.rd {h : AHeap} {B N t : Nat} {sp : Option Nat} {g : Nat → Nat} (m : Mx h B N g) (ht : t < N) : ldI .i64 ⟨B, t, sp⟩ h = some (g t : Int) := by
  refine ldI_of m.blk ?_
  rw [List.getElem?_map, matN, mat_get ht]; rfl
def elemB (x : Int) : Bool := !(decide (x < 0) || decide (x ≥ 256))
def chk (r c : Int) (xs : List Int) : Int := if r < 1 ∨ c < 1 ∨ r > 255 ∨ c > 255 then 1 else if (xs.length : Int) ≠ r * c then 4 else if xs.all elemB then 0 else 1
end Gz
namespace Gz
open Go Gx Go.Proofs
abbrev BF (B fb : Nat) : Nat → Prop := fun x => x = B ∨ x = fb
structure Row1 (h h' : AHeap) (B N sb fb : Nat) (g : Nat → Nat) : Prop where
  mx : Mx h' B N g
  spc : Spc h' sb fb
  ch : Chg (BF B fb) h h'
def divR (c i b : Nat) (g : Nat → Nat) : Nat → Nat := fun t => if t / c = i then divT (g t) b else g t
def swapR (c i k : Nat) (g : Nat → Nat) : Nat → Nat := fun t => if t / c = i then g (k * c + t % c) else if t / c = k then g (i * c + t % c) else g t
end Gz
namespace Gz
open Go Gx Go.Proofs
def leadN (C j : Nat) (g : Nat → Nat) : Nat → Nat → Nat
  | 0, i => i
  | m + 1, i => if g (i * C + j) = 0 then leadN C j g m (i + 1) else i
theorem leadN_le (C j : Nat) (g : Nat → Nat) : ∀ m i, i ≤ leadN C j g m i ∧ leadN C j g m i ≤ i + m
  | 0, i => ⟨Nat.le_refl _, Nat.le_refl _⟩
  | m + 1, i => by
    unfold leadN
    split
    · have := leadN_le C j g m (i + 1); omega
    · omega
theorem leadN_ne (C j : Nat) (g : Nat → Nat) : ∀ m i, leadN C j g m i < i + m → g (leadN C j g m i * C + j) ≠ 0
  | 0, i, h => by unfold leadN at h; omega
  | m + 1, i, h => by
    unfold leadN at h ⊢
    split
    · rename_i e; rw [if_pos e] at h; exact leadN_ne C j g m (i + 1) (by omega)
    · assumption
def elimG (C r j : Nat) (g : Nat → Nat) : Nat → Nat := fun t => if t / C = r then g t else g t ^^^ mulT (g (r * C + t % C)) (g (t / C * C + j))
def elimU (C C2 r j : Nat) (g u : Nat → Nat) : Nat → Nat := fun t => if t / C2 = r then u t else u t ^^^ mulT (u (r * C2 + t % C2)) (g (t / C2 * C + j))
def stepG (C j l r : Nat) (g : Nat → Nat) : Nat → Nat := let g1 := swapR C l r g; elimG C r j (divR C r (g1 (r * C + j)) g1)
def stepU (C C2 j l r : Nat) (g u : Nat → Nat) : Nat → Nat := let g1 := swapR C l r g; elimU C C2 r j (divR C r (g1 (r * C + j)) g1) (divR C2 r (g1 (r * C + j)) (swapR C2 l r u))
def stepsN (R C C2 : Nat) : Nat → Nat → Nat → (Nat → Nat) → (Nat → Nat) → Nat × (Nat → Nat) × (Nat → Nat)
  | 0, _, r, g, u => (r, g, u)
  | m + 1, j, r, g, u => if r < R then
      let l := leadN C j g (R - r) r
      if l = R then stepsN R C C2 m (j + 1) r g u else stepsN R C C2 m (j + 1) (r + 1) (stepG C j l r g) (stepU C C2 j l r g u)
    else (r, g, u)
structure Dist (B B2 oa ou sb fb : Nat) : Prop where
  d1 : B ≠ B2
  d2 : B ≠ oa
  d3 : B ≠ ou
  d4 : B ≠ sb
  d5 : B ≠ fb
  e2 : B2 ≠ oa
  e3 : B2 ≠ ou
  e4 : B2 ≠ sb
  e5 : B2 ≠ fb
  f1 : oa ≠ fb
  f2 : ou ≠ fb
structure SS (H0 : AHeap) (B B2 oa ou sb fb R C C2 : Nat) (sp sp2 : Option Nat) (g u : Nat → Nat) (h : AHeap) : Prop where
  a : Mx h B (R * C) g
  b : Mx h B2 (R * C2) u
  ca : h.get oa = some (.cells (mcell R C (whole B (R * C) sp)) 84 true 0)
  cb : h.get ou = some (.cells (mcell R C2 (whole B2 (R * C2) sp2)) 84 true 0)
  spc : Spc h sb fb
  la : oa < h.next
  lb : ou < h.next
  ch : Chg (fun x => x = B ∨ x = B2 ∨ x = fb) H0 h
section
variable {H0 : AHeap} {B B2 oa ou sb fb R C C2 : Nat} {sp sp2 : Option Nat} {g u g' u' : Nat → Nat} {h h' : AHeap}
theorem SS.keeps (s : SS H0 B B2 oa ou sb fb R C C2 sp sp2 g u h) (k : Keeps h h') : SS H0 B B2 oa ou sb fb R C C2 sp sp2 g u h' :=
  ⟨s.a.keeps k, s.b.keeps k, by rw [k.oth _ s.la (fun f => f)]; exact s.ca, by rw [k.oth _ s.lb (fun f => f)]; exact s.cb, s.spc.keeps k, Nat.lt_of_lt_of_le s.la k.nx, Nat.lt_of_lt_of_le s.lb k.nx, s.ch.trans (Chg.keeps k)⟩
theorem SS.congr (s : SS H0 B B2 oa ou sb fb R C C2 sp sp2 g u h) (e1 : ∀ t, t < R * C → g t = g' t) (e2 : ∀ t, t < R * C2 → u t = u' t) : SS H0 B B2 oa ou sb fb R C C2 sp sp2 g' u' h :=
  ⟨s.a.congr e1, s.b.congr e2, s.ca, s.cb, s.spc, s.la, s.lb, s.ch⟩
end
theorem le_row {i R c : Nat} (hi : i < R) : i * c + c ≤ R * c := by have := Nat.mul_le_mul_right c (show i + 1 ≤ R from hi); rw [Nat.succ_mul] at this; exact this
end Gz
namespace Gz
open Go Gx Go.Proofs
theorem divR_el {c i b N : Nat} {g : Nat → Nat} (h : ∀ t, t < N → g t < 256) : ∀ t, t < N → divR c i b g t < 256 := fun t ht => by
  unfold divR
  split
  · exact divT_lt
  · exact h t ht
end Gz
namespace Gz
open Go Gx Go.Proofs
structure InM (h : AHeap) (s : Slc) (xs : List Int) : Prop where
  row : Row encI h s xs
  own : xs ≠ [] → ∃ B sp, s = whole B xs.length sp ∧ spOk sp 1 = true ∧ h.get B = some (outB encI 3 xs) ∧ B < h.next
theorem InM.chg {S : Nat → Prop} {h h' : AHeap} {s : Slc} {xs : List Int} (i : InM h s xs) (c : Chg S h h') (hs : ∀ a, s.a = some a → ¬ S a.block) : InM h' s xs :=
  ⟨i.row.chg c hs, fun hx => by
    obtain ⟨B, sp, rfl, h1, h2, h3⟩ := i.own hx
    exact ⟨B, sp, rfl, h1, by rw [c.oth B h3 (hs _ rfl)]; exact h2, Nat.lt_of_lt_of_le h3 c.nx⟩⟩
theorem InM.keeps {h h' : AHeap} {s : Slc} {xs : List Int} (i : InM h s xs) (c : Keeps h h') : InM h' s xs := i.chg c fun _ _ f => f
theorem InM.mx {h : AHeap} {s : Slc} {N : Nat} {g : Nat → Nat} (i : InM h s (matN N g)) (hN : N ≠ 0) (he : ∀ t, t < N → g t < 256) : ∃ B sp, s = whole B N sp ∧ spOk sp 1 = true ∧ Mx h B N g := by
  have hl : (matN N g).length = N := mat_length N _
  obtain ⟨B, sp, h1, h2, h3, h4⟩ := i.own (fun e => hN (by rw [← hl, e]; rfl))
  rw [hl] at h1
  exact ⟨B, sp, h1, h2, h3, h4, he⟩
abbrev MRes := (Int × Int × List Int) × Int
structure Out (h h' : AHeap) (res : (Int × Int × Slc) × Int) (p : MRes) : Prop where
  r : res.1.1 = p.1.1
  c : res.1.2.1 = p.1.2.1
  code : res.2 = p.2
  inm : InM h' res.1.2.2 p.1.2.2
  off : ∀ a, res.1.2.2.a = some a → h.next ≤ a.block
def noM (code : Int) : MRes := ((0, 0, []), code)
theorem InM.nil (h : AHeap) : InM h nilS [] := ⟨Row.nil _ _ _ _, fun h => absurd rfl h⟩
theorem Out.no {h h' : AHeap} (code : Int) : Out h h' ((0, 0, nilS), code) (noM code) := ⟨rfl, rfl, rfl, .nil h', fun a ha => by cases ha⟩
def oneN (n t : Nat) : Nat := if t / n = t % n then 1 else 0
end Gz
namespace Gz
open Go Gx Go.Proofs
structure Dist3 (O BA BB oa ob oo sb fb : Nat) : Prop where
  oBA : O ≠ BA
  oBB : O ≠ BB
  ooa : O ≠ oa
  oob : O ≠ ob
  ooo : O ≠ oo
  osb : O ≠ sb
  ofb : O ≠ fb
  fBA : BA ≠ fb
  fBB : BB ≠ fb
  foa : oa ≠ fb
  fob : ob ≠ fb
  foo : oo ≠ fb
structure S3 (H0 : AHeap) (O BA BB oa ob oo sb fb R C C2 : Nat) (sa sb' : Option Nat) (ga gb f : Nat → Nat) (h : AHeap) : Prop where
  a : Mx h BA (R * C) ga
  b : Mx h BB (C * C2) gb
  o : Mx h O (R * C2) f
  ca : h.get oa = some (.cells (mcell R C (whole BA (R * C) sa)) 84 true 0)
  cb : h.get ob = some (.cells (mcell C C2 (whole BB (C * C2) sb')) 84 true 0)
  co : h.get oo = some (.cells (mcell R C2 (whole O (R * C2))) 84 true 0)
  spc : Spc h sb fb
  la : oa < h.next
  lb : ob < h.next
  lo : oo < h.next
  ch : Chg (BF O fb) H0 h
section
variable {H0 : AHeap} {O BA BB oa ob oo sb fb R C C2 : Nat} {sa sb' : Option Nat} {ga gb f f' : Nat → Nat} {h h' : AHeap}
theorem S3.keeps (s : S3 H0 O BA BB oa ob oo sb fb R C C2 sa sb' ga gb f h) (k : Keeps h h') : S3 H0 O BA BB oa ob oo sb fb R C C2 sa sb' ga gb f h' :=
  ⟨s.a.keeps k, s.b.keeps k, s.o.keeps k, by rw [k.oth _ s.la (fun f => f)]; exact s.ca, by rw [k.oth _ s.lb (fun f => f)]; exact s.cb, by rw [k.oth _ s.lo (fun f => f)]; exact s.co, s.spc.keeps k, Nat.lt_of_lt_of_le s.la k.nx, Nat.lt_of_lt_of_le s.lb k.nx, Nat.lt_of_lt_of_le s.lo k.nx, s.ch.trans (Chg.keeps k)⟩
theorem S3.op (D : Dist3 O BA BB oa ob oo sb fb) (s : S3 H0 O BA BB oa ob oo sb fb R C C2 sa sb' ga gb f h) (r : Row1 h h' O (R * C2) sb fb f') : S3 H0 O BA BB oa ob oo sb fb R C C2 sa sb' ga gb f' h' :=
  ⟨s.a.chg r.ch (fun e => e.elim (fun e => D.oBA e.symm) D.fBA), s.b.chg r.ch (fun e => e.elim (fun e => D.oBB e.symm) D.fBB), r.mx, by rw [r.ch.oth _ s.la (fun e => e.elim (fun e => D.ooa e.symm) D.foa)]; exact s.ca, by rw [r.ch.oth _ s.lb (fun e => e.elim (fun e => D.oob e.symm) D.fob)]; exact s.cb,
    by rw [r.ch.oth _ s.lo (fun e => e.elim (fun e => D.ooo e.symm) D.foo)]; exact s.co, r.spc, Nat.lt_of_lt_of_le s.la r.ch.nx, Nat.lt_of_lt_of_le s.lb r.ch.nx, Nat.lt_of_lt_of_le s.lo r.ch.nx, s.ch.trans r.ch⟩
theorem S3.congr (s : S3 H0 O BA BB oa ob oo sb fb R C C2 sa sb' ga gb f h) (e : ∀ t, t < R * C2 → f t = f' t) : S3 H0 O BA BB oa ob oo sb fb R C C2 sa sb' ga gb f' h :=
  ⟨s.a, s.b, s.o.congr e, s.ca, s.cb, s.co, s.spc, s.la, s.lb, s.lo, s.ch⟩
end
end Gz
namespace Gz
open Go Gx Go.Proofs
structure SI (H0 : AHeap) (B ob R C : Nat) (sp : Option Nat) (g : Nat → Nat) (h : AHeap) : Prop where
  m : Mx h B (R * C) g
  c : h.get ob = some (.cells (mcell R C (whole B (R * C) sp)) 97 true 0)
  lo : ob < h.next
  ne : ob ≠ B
  ch : Chg (· = B) H0 h
section
variable {H0 : AHeap} {B ob R C : Nat} {sp : Option Nat} {g g' : Nat → Nat} {h h' : AHeap}
theorem SI.keeps (s : SI H0 B ob R C sp g h) (k : Keeps h h') : SI H0 B ob R C sp g h' :=
  ⟨s.m.keeps k, by rw [k.oth _ s.lo (fun f => f)]; exact s.c, Nat.lt_of_lt_of_le s.lo k.nx, s.ne, s.ch.trans (Chg.keeps k)⟩
theorem SI.congr (s : SI H0 B ob R C sp g h) (e : ∀ t, t < R * C → g t = g' t) : SI H0 B ob R C sp g' h := ⟨s.m.congr e, s.c, s.lo, s.ne, s.ch⟩
end
end Gz
namespace Gz
open Go Gx Go.Proofs
structure In1 (h : AHeap) (O ob R C : Nat) (s : Slc) (e : TypeId) (g : Nat → Nat) : Prop where
  row : Row encI h s (matN (R * C) g)
  cel : h.get ob = some (.cells (mcell R C s) e true 0)
  lt : ob < h.next
  ne : ob ≠ O
  ap : ∀ a, s.a = some a → ¬ a.block = O
  el : ∀ t, t < R * C → g t < 256
structure Ou1 (H0 : AHeap) (O oo R C : Nat) (e : TypeId) (f : Nat → Nat) (h : AHeap) : Prop where
  o : Mx h O (R * C) f
  cel : h.get oo = some (.cells (mcell R C (whole O (R * C))) e true 0)
  lt : oo < h.next
  ne : oo ≠ O
  ch : Chg (· = O) H0 h
section
variable {H0 : AHeap} {O ob R C : Nat} {s : Slc} {e : TypeId} {f f' g : Nat → Nat} {h h' : AHeap}
theorem In1.chg (i : In1 h O ob R C s e g) (c : Chg (· = O) h h') : In1 h' O ob R C s e g :=
  ⟨i.row.chg c i.ap, by rw [c.oth _ i.lt i.ne]; exact i.cel, Nat.lt_of_lt_of_le i.lt c.nx, i.ne, i.ap, i.el⟩
theorem In1.keeps (i : In1 h O ob R C s e g) (c : Keeps h h') : In1 h' O ob R C s e g := i.chg (Chg.keeps c)
theorem Ou1.keeps (i : Ou1 H0 O ob R C e f h) (c : Keeps h h') : Ou1 H0 O ob R C e f h' :=
  ⟨i.o.keeps c, by rw [c.oth _ i.lt (fun f => f)]; exact i.cel, Nat.lt_of_lt_of_le i.lt c.nx, i.ne, i.ch.trans (Chg.keeps c)⟩
theorem Ou1.congr (i : Ou1 H0 O ob R C e f h) (q : ∀ t, t < R * C → f t = f' t) : Ou1 H0 O ob R C e f' h := ⟨i.o.congr q, i.cel, i.lt, i.ne, i.ch⟩
end
section
variable {k0 : Nat} {H0 : AHeap} {O oa ob oo R C C2 : Nat} {sA sB : Slc} {ga gb f : Nat → Nat}
end
end Gz
namespace Gz
open Go Gx Go.Proofs
section
variable {k0 : Nat} {H0 : AHeap} {O oa oo R C BA : Nat} {sA : Slc} {sp : Option Nat} {g : Nat → Nat}
end
end Gz
namespace Gz
open Go Gx Go.Proofs
def pickF (C : Nat) (g : Nat → Nat) (w : Nat → Nat) : Nat → Nat := fun t => g (w (t / C) * C + t % C)
section
variable {k0 : Nat} {H0 : AHeap} {O oa oo R C : Nat} {sA rs : Slc} {rows : List Int} {g : Nat → Nat}
theorem stS2 {h : AHeap} {b : Nat} {e : TypeId} {r c : Int} {s s' : Slc} {sp : Option Nat} (hb : h.get b = some (.cells (mcell r c s) e true 0)) : st1 ⟨b, 2, sp⟩ (.slice s'.a s'.len s'.cap) h = some (h.set b (.cells (mcell r c s') e true 0)) := by
  rw [st1_of hb (by simp [mcell]) rfl]
  rfl
structure PK (H0 : AHeap) (base oo C n : Nat) (w : Nat → Nat) (g : Nat → Nat) (i : Nat) (h : AHeap) (s : Slc) : Prop where
  ch : Chg (fun x => base ≤ x) H0 h
  co : h.get oo = some (.cells (mcell n C s) 84 true 0)
  lo : oo < h.next
  bo : base ≤ oo
  acc : (s = nilS ∧ i = 0) ∨ ∃ b, Grown encI 3 h b s (matN (i * C) (pickF C g w)) ∧ base ≤ b ∧ b < h.next ∧ b ≠ oo
end
end Gz
namespace Gz
open Go Gx Go.Proofs
theorem div_scl {x b : Nat} (hx : x < 256) (hb : b < 256) (b0 : b ≠ 0) : mulT x (divT 1 b) = divT x b := by
  have h1 : mulT (mulT x (divT 1 b)) b = x := by rw [mulT_assoc, mul_div (by omega) hb b0, mulT_one hx]
  have := div_mul (q := mulT x (divT 1 b)) (b := b) (mulT_lt _ _) hb b0
  rw [h1] at this
  exact this.symm
structure SR (H0 : AHeap) (B B2 oa ol ou yb R : Nat) (s : Slc) (sp sp2 : Option Nat) (g u : Nat → Nat) (h : AHeap) : Prop where
  a : Mx h B (R * R) g
  b : Mx h B2 (R * R) u
  ca : h.get oa = some (.cells (mcell R R s) 97 true 0)
  cl : h.get ol = some (.cells (mcell R R (whole B (R * R) sp)) 97 true 0)
  cu : h.get ou = some (.cells (mcell R R (whole B2 (R * R) sp2)) 97 true 0)
  cy : h.get yb = some (.cells (mcell 0 0 nilS) 97 true 0)
  la : oa < h.next
  ll : ol < h.next
  lu : ou < h.next
  ly : yb < h.next
  ch : Chg (fun x => x = B ∨ x = B2) H0 h
structure DR (B B2 oa ol ou yb : Nat) : Prop where
  bb : B ≠ B2
  a1 : oa ≠ B
  l1 : ol ≠ B
  u1 : ou ≠ B
  y1 : yb ≠ B
  a2 : oa ≠ B2
  l2 : ol ≠ B2
  u2 : ou ≠ B2
  y2 : yb ≠ B2
section
variable {H0 : AHeap} {B B2 oa ol ou yb R : Nat} {s : Slc} {sp sp2 : Option Nat} {g u g' u' : Nat → Nat} {h h' : AHeap}
theorem SR.keeps (S : SR H0 B B2 oa ol ou yb R s sp sp2 g u h) (k : Keeps h h') : SR H0 B B2 oa ol ou yb R s sp sp2 g u h' :=
  ⟨S.a.keeps k, S.b.keeps k, by rw [k.oth _ S.la (fun f => f)]; exact S.ca, by rw [k.oth _ S.ll (fun f => f)]; exact S.cl, by rw [k.oth _ S.lu (fun f => f)]; exact S.cu, by rw [k.oth _ S.ly (fun f => f)]; exact S.cy,
    Nat.lt_of_lt_of_le S.la k.nx, Nat.lt_of_lt_of_le S.ll k.nx, Nat.lt_of_lt_of_le S.lu k.nx, Nat.lt_of_lt_of_le S.ly k.nx, S.ch.trans (Chg.keeps k)⟩
theorem SR.congr (S : SR H0 B B2 oa ol ou yb R s sp sp2 g u h) (e1 : ∀ t, t < R * R → g t = g' t) (e2 : ∀ t, t < R * R → u t = u' t) : SR H0 B B2 oa ol ou yb R s sp sp2 g' u' h :=
  ⟨S.a.congr e1, S.b.congr e2, S.ca, S.cl, S.cu, S.cy, S.la, S.ll, S.lu, S.ly, S.ch⟩
end
section
variable {k0 : Nat} {H0 : AHeap} {B B2 oa ol ou yb R : Nat} {s : Slc} {sp sp2 : Option Nat} {g u : Nat → Nat}
end
end Gz
namespace Gz
open Go Gx Go.Proofs
theorem set_get (h : AHeap) (b : Nat) (B : ABlk) : (h.set b B).get b = some B := by simp
structure PL (h : AHeap) (pb f2 B sb fb k m : Nat) : Prop where
  blk : h.get pb = some (.cells [.int .i64 (k : Int), .int .i64 (m : Int), .pointer (some ⟨f2, 0, none⟩), .pointer (some ⟨sb, 0, none⟩), .int .i64 ((k + m : Nat) : Int), .int .i64 (k : Int), .slice (some ⟨B, 0, some 0⟩) ((k + m) * k) ((k + m) * k)] 90 true 0)
  fld : Fld h f2
  mat : h.get B = some (outB encI 3 (mat ((k + m) * k) (cau k)))
  spc : Spc h sb fb
  lp : pb < h.next
  lf : f2 < h.next
  lb : B < h.next
  n1 : B ≠ f2
  n2 : pb ≠ f2
  n3 : sb ≠ f2
  n4 : fb ≠ f2
  n5 : B ≠ fb
  n6 : pb ≠ fb
  n7 : B ≠ sb
  n8 : pb ≠ sb
theorem PL.chg {S : Nat → Prop} {h h' : AHeap} {pb f2 B sb fb k m : Nat} (p : PL h pb f2 B sb fb k m) (c : Chg S h h') (a1 : ¬ S pb) (a2 : ¬ S f2) (a3 : ¬ S B) (a4 : ¬ S sb) (a5 : ¬ S fb) : PL h' pb f2 B sb fb k m :=
  ⟨(c.oth _ p.lp a1).trans p.blk, fldchg p.fld p.lf c a2, (c.oth _ p.lb a3).trans p.mat, p.spc.chg c a4 a5, Nat.lt_of_lt_of_le p.lp c.nx, Nat.lt_of_lt_of_le p.lf c.nx, Nat.lt_of_lt_of_le p.lb c.nx, p.n1, p.n2, p.n3, p.n4, p.n5, p.n6, p.n7, p.n8⟩
theorem PL.keeps {h h' : AHeap} {pb f2 B sb fb k m : Nat} (p : PL h pb f2 B sb fb k m) (c : Keeps h h') : PL h' pb f2 B sb fb k m :=
  p.chg c (fun f => f) (fun f => f) (fun f => f) (fun f => f) (fun f => f)
theorem PL.fs2 {h h' : AHeap} {pb f2 B sb fb k m : Nat} (p : PL h pb f2 B sb fb k m) (s : FS f2 h h') : PL h' pb f2 B sb fb k m :=
  ⟨(s.oth _ p.lp p.n2).trans p.blk, s.fld, (s.oth _ p.lb p.n1).trans p.mat, p.spc.chg s.chg p.n3 p.n4, Nat.lt_of_lt_of_le p.lp s.nx, Nat.lt_of_lt_of_le p.lf s.nx, Nat.lt_of_lt_of_le p.lb s.nx, p.n1, p.n2, p.n3, p.n4, p.n5, p.n6, p.n7, p.n8⟩
theorem snew_spec {k0 : Nat} (hk : 1000 ≤ k0) (h : AHeap) {k m : Nat} (hk1 : 0 < k) (hR : k + m ≤ 255) :
    ∃ h' pb f2 B sb fb, stripe_New k0 (DD k0) (k : Int) (m : Int) h = some ((some ⟨pb, 0, none⟩, 0), h') ∧ PL h' pb f2 B sb fb k m ∧ Keeps h h' ∧ h.next ≤ pb ∧ h.next ≤ f2 ∧ h.next ≤ B ∧ h.next ≤ sb ∧ h.next ≤ fb := by
  simp only [stripe_New]
  obtain ⟨h1, r1, k1, S1, n1⟩ := mnew_spec k0 (DD k0) h
  obtain ⟨h2, B, r2, S2, M⟩ := cauchy_spec hk (k := k) (m := m) S1 hk1 hR
  obtain ⟨h4, r4, k4, n4, b4⟩ := mvar (h := h2) (e := 84) (r := ((k + m : Nat) : Int)) (c := (k : Int)) (s := whole B ((k + m) * k))
  have hs := S2.ls
  have hf := S2.lf
  have hB := M.lb
  have hnb := M.nb
  let h5 := h4.new (.cells fresh 143 true 0)
  have k5 : Keeps h4 h5 := Keeps.new _ _
  have b5 : h5.get h2.next = some (.cells (mcell ((k + m : Nat) : Int) (k : Int) (whole B ((k + m) * k))) 84 true 0) := (k5.oth _ (by omega) (fun f => f)).trans b4
  have q4 := ldA_at (sp := none) b4 (show (mcell ((k + m : Nat) : Int) (k : Int) (whole B ((k + m) * k))).length = 3 from rfl)
  have q5 := ldA_at (sp := none) b5 (show (mcell ((k + m : Nat) : Int) (k : Int) (whole B ((k + m) * k))).length = 3 from rfl)
  let h6 := h5.new (.cells [.int .i64 (k : Int), .int .i64 (m : Int), .pointer (some ⟨h4.next, 0, none⟩), .pointer (some ⟨h.next + 1, 0, none⟩), .int .i64 ((k + m : Nat) : Int), .int .i64 (k : Int), .slice (some ⟨B, 0, some 0⟩) ((k + m) * k) ((k + m) * k)] 90 true 0)
  have k6 : Keeps h5 h6 := Keeps.new _ _
  have K26 : Keeps h2 h6 := k4.trans (k5.trans k6)
  have n5 : h5.next = h4.next + 1 := rfl
  refine ⟨h6, h5.next, h4.next, B, h.next + 1, h.next, ?_, ⟨?_, ?_, ?_, S2.keeps K26, ?_, ?_, ?_, ?_, ?_, ?_, ?_, ?_, ?_, ?_, ?_⟩, ?_, ?_, ?_, ?_, ?_, ?_⟩
  · refine bnd r1 (bnd r2 (bnd r4 ?_))
    refine ifn (by simp) ?_
    refine bnd (new_spec k0 (DD k0) h4) ?_
    refine bnd q5 (gp (sw1 (bnd q4 rfl)) ?_)
    exact bnd rfl rfl
  · show h6.get h5.next = _; simp [h6]
  · exact fldchg (fld_new h4) (by show h4.next < h4.next + 1; omega) k6 (fun f => f)
  · exact (K26.oth _ hB (fun f => f)).trans M.blk
  · show h5.next < h5.next + 1; omega
  · show h4.next < h4.next + 1 + 1; omega
  · have := K26.nx; omega
  · omega
  · omega
  · omega
  · omega
  · omega
  · omega
  · omega
  · omega
  · exact Chg.beh (k1.trans (Chg.refl _ _)) (M.ch.trans (Chg.keeps K26)) (fun x hx e => by have : x = h.next := e; omega)
  · omega
  · omega
  · omega
  · omega
  · omega
theorem snew_no {k0 : Nat} (h : AHeap) {k m : Int} (hb : k < 1 ∨ m < 0 ∨ k > 255 ∨ m > 255 - k) : ∃ h', stripe_New k0 (DD k0) k m h = some ((none, 1), h') ∧ Keeps h h' := by
  simp only [stripe_New]
  obtain ⟨h1, r1, k1, S1, n1⟩ := mnew_spec k0 (DD k0) h
  obtain ⟨h2, r2, k2⟩ := cauchy_no k0 (DD k0) (some ⟨h.next + 1, 0, none⟩) h1 hb
  obtain ⟨h4, r4, k4, n4, b4⟩ := mvar (h := h2) (e := 84) (r := 0) (c := 0) (s := nilS)
  refine ⟨h4, ?_, k1.trans (k2.trans k4)⟩
  refine bnd r1 (bnd r2 (bnd r4 ?_))
  exact ifp (by simp) rfl
structure PR (h : AHeap) (pb B k m : Nat) : Prop where
  blk : h.get pb = some (.cells [.int .i64 (k : Int), .int .i64 (m : Int), .int .i64 ((k + m : Nat) : Int), .int .i64 (k : Int), .slice (some ⟨B, 0, some 0⟩) ((k + m) * k) ((k + m) * k)] 101 true 0)
  mat : h.get B = some (outB encI 3 (mat ((k + m) * k) (cau k)))
  lp : pb < h.next
  lb : B < h.next
theorem PR.chg {S : Nat → Prop} {h h' : AHeap} {pb B k m : Nat} (p : PR h pb B k m) (c : Chg S h h') (a1 : ¬ S pb) (a3 : ¬ S B) : PR h' pb B k m :=
  ⟨(c.oth _ p.lp a1).trans p.blk, (c.oth _ p.lb a3).trans p.mat, Nat.lt_of_lt_of_le p.lp c.nx, Nat.lt_of_lt_of_le p.lb c.nx⟩
theorem PR.keeps {h h' : AHeap} {pb B k m : Nat} (p : PR h pb B k m) (c : Keeps h h') : PR h' pb B k m := p.chg c (fun f => f) (fun f => f)
theorem rsnew_spec {k0 : Nat} (hk : 1000 ≤ k0) (D : CallF) (h : AHeap) {k m : Nat} (hk1 : 0 < k) (hR : k + m ≤ 255) :
    ∃ h' pb B, ref05_New k0 D (k : Int) (m : Int) h = some ((some ⟨pb, 0, none⟩, 0), h') ∧ PR h' pb B k m ∧ Keeps h h' ∧ h.next ≤ pb ∧ h.next ≤ B := by
  simp only [ref05_New]
  obtain ⟨h2, B, r2, M⟩ := rcauchy_spec hk D (h := h) (k := k) (m := m) hk1 hR
  obtain ⟨h4, r4, k4, n4, b4⟩ := mvar (h := h2) (e := 97) (r := ((k + m : Nat) : Int)) (c := (k : Int)) (s := whole B ((k + m) * k))
  have hB := M.lb
  have hnb := M.nb
  have hn2 := M.ch.nx
  have q4 := ldA_at (sp := none) b4 (show (mcell ((k + m : Nat) : Int) (k : Int) (whole B ((k + m) * k))).length = 3 from rfl)
  let h6 := h4.new (.cells [.int .i64 (k : Int), .int .i64 (m : Int), .int .i64 ((k + m : Nat) : Int), .int .i64 (k : Int), .slice (some ⟨B, 0, some 0⟩) ((k + m) * k) ((k + m) * k)] 101 true 0)
  have k6 : Keeps h4 h6 := Keeps.new _ _
  refine ⟨h6, h4.next, B, ?_, ⟨?_, ?_, ?_, ?_⟩, M.ch.trans (k4.trans k6), ?_, hnb⟩
  · refine bnd r2 (bnd r4 ?_)
    refine ifn (by simp) ?_
    exact bnd q4 (bnd rfl rfl)
  · show h6.get h4.next = _; simp [h6]
  · exact ((k4.trans k6).oth _ hB (fun f => f)).trans M.blk
  · show h4.next < h4.next + 1; omega
  · have := (k4.trans k6).nx; omega
  · omega
theorem rsnew_no {k0 : Nat} (D : CallF) (h : AHeap) {k m : Int} (hb : k < 1 ∨ m < 0 ∨ k > 255 ∨ m > 255 - k) : ∃ h', ref05_New k0 D k m h = some ((none, 1), h') ∧ Keeps h h' := by
  simp only [ref05_New]
  obtain ⟨h2, r2, k2⟩ := rcauchy_no k0 D h hb
  obtain ⟨h4, r4, k4, n4, b4⟩ := mvar (h := h2) (e := 97) (r := 0) (c := 0) (s := nilS)
  refine ⟨h4, ?_, k2.trans k4⟩
  refine bnd r2 (bnd r4 ?_)
  exact ifp (by simp) rfl
end Gz
namespace Gz
open Go Gx Go.Proofs
def nE (k L : Nat) : Nat := (L + k - 1) / k
def padL (k : Nat) (s : ByteArray) : List UInt8 := bl s ++ List.replicate (k * nE k s.size - s.size) 0
def pieceB (k : Nat) (s : ByteArray) (i : Nat) : ByteArray := ⟨⟨((padL k s).take ((i + 1) * nE k s.size)).drop (i * nE k s.size)⟩⟩
def piecesL (k : Nat) (s : ByteArray) : List ByteArray := (List.range k).map (pieceB k s)
def rowC (k i : Nat) : List Int := (List.range k).map fun j => cau k (i * k + j)
def shardB (k : Nat) (s : ByteArray) (i : Nat) : ByteArray := if i < k then pieceB k s i else (mixA (piecesL k s) (rowC k i)).1
def shardsL (k m : Nat) (s : ByteArray) : List ByteArray := (List.range (k + m)).map (shardB k s)
theorem nE_ge {k : Nat} (hk : 0 < k) (L : Nat) : L ≤ k * nE k L := by
  unfold nE
  have := Nat.div_add_mod (L + k - 1) k
  have h2 := Nat.mod_lt (L + k - 1) hk
  omega
theorem nE_le {k : Nat} (_hk : 0 < k) (L : Nat) : k * nE k L ≤ L + k - 1 := Nat.mul_div_le _ _
theorem padL_length {k : Nat} (hk : 0 < k) (s : ByteArray) : (padL k s).length = k * nE k s.size := by
  have := nE_ge hk s.size
  simp only [padL, List.length_append, bl_length, List.length_replicate]; omega
theorem pieceB_size {k i : Nat} (hk : 0 < k) (s : ByteArray) (hi : i < k) : (pieceB k s i).size = nE k s.size := by
  have h1 : (i + 1) * nE k s.size ≤ k * nE k s.size := Nat.mul_le_mul_right _ hi
  rw [pieceB, size_mk, List.length_drop, List.length_take, padL_length hk, Nat.min_eq_left h1, Nat.add_mul]; omega
theorem piecesL_length (k : Nat) (s : ByteArray) : (piecesL k s).length = k := by simp [piecesL]
theorem rowC_length (k i : Nat) : (rowC k i).length = k := by simp [rowC]
theorem pieces_mem {k : Nat} (hk : 0 < k) {s x : ByteArray} (hx : x ∈ piecesL k s) : x.size = nE k s.size := by
  obtain ⟨i, hi, rfl⟩ := List.mem_map.1 hx
  exact pieceB_size hk s (List.mem_range.1 hi)
def emT : ByteArray := ⟨#[]⟩
def filT (f : Nat → ByteArray) (T i : Nat) : List ByteArray := (List.range i).map f ++ List.replicate (T - i) emT
theorem filT_length {f : Nat → ByteArray} {T i : Nat} (hi : i ≤ T) : (filT f T i).length = T := by simp [filT]; omega
theorem filT_get {f : Nat → ByteArray} {T i j : Nat} (hj : j < i) : (filT f T i)[j]? = some (f j) := by
  unfold filT
  rw [List.getElem?_append_left (by simpa using hj)]
  simp [hj]
theorem filT_all {f : Nat → ByteArray} {T : Nat} : filT f T T = (List.range T).map f := by simp [filT]
theorem fil_push {f : Nat → ByteArray} {T i : Nat} {h : AHeap} {ob : Nat} {x : ByteArray} (hb : h.get ob = some (outB encS 9 (filT f T i))) (hi : i < T) (hx : x = f i) :
    appendA 1 16 9 h (⟨some ⟨ob, 0, some 0⟩, i, T⟩ : Slc) [.string x] 1 = some (⟨some ⟨ob, 0, some 0⟩, i + 1, T⟩, h.set ob (outB encS 9 (filT f T (i + 1)))) := by
  subst hx
  unfold appendA
  rw [if_pos (show i + 1 ≤ T from hi)]
  simp only [Nat.one_ne_zero, if_false]
  have hl : ((filT f T i).map encS).length = T := by rw [List.length_map, filT_length (by omega)]
  have hw : h.wrL ob (0 + i * 1) [Value.string (f i)] = some (h.set ob (outB encS 9 (filT f T (i + 1)))) := by
    simp only [AHeap.wrL, hb, outB]
    rw [if_pos ⟨by rw [hl]; simp; omega, by omega, rfl⟩]
    congr 3
    simp only [splice, Nat.zero_add, Nat.mul_one, List.length_singleton]
    unfold filT
    have e1 : ((List.range i).map f).length = i := by simp
    rw [← List.map_take, ← List.map_drop, List.take_left' e1, List.drop_append, e1, List.drop_eq_nil_of_le (by rw [e1]; omega), List.nil_append, show i + 1 - i = 1 by omega, List.drop_replicate, List.range_succ, List.map_append, List.map_append, List.map_append, show T - i - 1 = T - (i + 1) by omega]
    simp [encS]
  rw [hw]; rfl
def eachA (k : Nat) (long : Int) : Int × Int := if long < 0 ∨ long > 65536 then (0, 1) else (Int.tdiv (long + k - 1) k, 0)
theorem eachA_nat {k L : Nat} (hk : 0 < k) (hL : L ≤ 65536) : eachA k (L : Int) = (((nE k L : Nat) : Int), 0) := by
  unfold eachA
  rw [if_neg (by omega)]
  have : (L : Int) + k - 1 = ((L + k - 1 : Nat) : Int) := by omega
  rw [this]; rfl
theorem each_spec (k0 : Nat) (D : CallF) {h : AHeap} {pb f2 B sb fb k m : Nat} (p : PL h pb f2 B sb fb k m) (hk : 0 < k) (hk2 : k ≤ 255) (long : Int) : stripe_Plan_Each k0 D (some ⟨pb, 0, none⟩) long h = some (eachA k long, h) := by
  simp only [stripe_Plan_Each]
  have l0 : ldI .i64 ⟨pb, 0, none⟩ h = some (k : Int) := ldI_at p.blk rfl
  unfold eachA
  by_cases c1 : long < 0
  · refine jn (ifp (decide_eq_true c1) (ifp rfl ?_)); rw [if_pos (.inl c1)]
  · refine jn (ifn (by simpa using c1) ?_)
    by_cases c2 : long > 65536
    · refine ifp (decide_eq_true c2) ?_; rw [if_pos (.inr c2)]
    · refine ifn (by simpa using c2) ?_
      rw [if_neg (by omega)]
      refine bnd rfl (bnd l0 (bnd rfl (bnd l0 ?_)))
      refine ifn (by omega) ?_
      have q2 : Int.tdiv (long + (k : Int) - 1) (k : Int) ≤ long + k - 1 := by rw [Int.tdiv_eq_ediv_of_nonneg (by omega)]; exact Int.ediv_le_self _ (by omega)
      have q1 : 0 ≤ Int.tdiv (long + (k : Int) - 1) (k : Int) := Int.tdiv_nonneg (by omega) (by omega)
      rw [w64 (long + (k : Int)) (by omega), w64 (long + (k : Int) - 1) (by omega), w64 _ (by omega)]
theorem mat_row {k N : Nat} {h : AHeap} {B : Nat} (hb : h.get B = some (outB encI 3 (mat N (cau k)))) (hl : B < h.next) {i : Nat} (hi : i * k + k ≤ N) (cap : Nat) (sp : Option Nat) : Row encI h (⟨some ⟨B, i * k, sp⟩, k, cap⟩ : Slc) (rowC k i) := by
  have := Row.of_block (enc := encI) (h := h) (xs := rowC k i) (b := B) (o := i * k) (sp := sp) (cap := cap) (c := (mat N (cau k)).map encI) (e := 3) (r := true) (fz := 0) hb hl (fun j x hx => by
    have hj : j < k := by
      have := (List.getElem?_eq_some_iff.1 hx).1; rwa [rowC_length] at this
    have hx' : x = cau k (i * k + j) := by simp [rowC, hj] at hx; exact hx.symm
    rw [List.getElem?_map, mat_get (show i * k + j < N by omega), hx']; rfl)
  rw [rowC_length] at this
  exact this
theorem subL_row {B k i N : Nat} (hk : 0 < k) (hi : i * k + k ≤ N) (hN : N ≤ 70000) (hi2 : i ≤ 255) : Gx.subL 1 (⟨some ⟨B, 0, some 0⟩, N, N⟩ : Slc) (some (IntKind.wrap .i64 ((i : Int) * (k : Int)))) (some (IntKind.wrap .i64 ((IntKind.wrap .i64 ((i : Int) + 1)) * (k : Int)))) none = some (⟨some ⟨B, i * k, some 0⟩, k, N - i * k⟩ : Slc) := by
  have e1 : (i : Int) * (k : Int) = ((i * k : Nat) : Int) := by simp
  have e3 : IntKind.wrap .i64 ((i : Int) + 1) = ((i + 1 : Nat) : Int) := by rw [w64 _ (by omega)]; omega
  have e4 : ((i + 1 : Nat) : Int) * (k : Int) = ((i * k + k : Nat) : Int) := by push_cast; rw [Int.add_mul, Int.one_mul]
  have e2 : IntKind.wrap .i64 ((i : Int) * (k : Int)) = ((i * k : Nat) : Int) := by rw [e1]; exact w64 _ (by omega)
  rw [e3, e4, e2, w64 ((i * k + k : Nat) : Int) (by omega)]
  simp only [Gx.subL, Option.getD_none, Option.getD_some]
  rw [if_pos (by omega), if_pos (by rfl), if_neg (by omega)]
  simp only [Int.toNat_natCast, Nat.mul_one, Nat.zero_add, Option.isSome_none, Bool.false_eq_true, if_false]
  rw [show (((i * k + k : Nat) : Int) - ((i * k : Nat) : Int)).toNat = k by omega, show ((N : Int) - ((i * k : Nat) : Int)).toNat = N - i * k by omega]
end Gz
