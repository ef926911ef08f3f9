import Derived.Test.YtcacldakplomnaaGreatDoorSp2
namespace Gz
open Go Gx Go.Proofs
theorem zZc_ (k0 : Nat) (D : za_) (x : UInt32) (n : Nat) (hn : 0 < n ∧ n < 32) (h : AHeap) : zob_ k0 D (x.toNat : Int) (n : Int) h = some (((rotr x n).toNat : Int), h) := by
 simp only [zob_]
 have e : IntKind.wrap .i64 (32 - (n : Int)) = ((32 - n : Nat) : Int) := sw64 (by omega) (by omega)
 rw [e, if_pos (by omega), if_pos (by omega), Int.toNat_natCast, Int.toNat_natCast]
 have m1 : min (32 - n) (IntKind.bits .u32) = 32 - n := Nat.min_eq_left (by show 32 - n ≤ 32; omega)
 have m2 : min n (IntKind.bits .u32) = n := Nat.min_eq_left (by show n ≤ 32; omega)
 have p1 : (2 : Int) ^ (32 - n) = ((2 ^ (32 - n) : Nat) : Int) := by simp
 have p2 : (2 : Int) ^ n = ((2 ^ n : Nat) : Int) := by simp
 rw [m1, m2, p1, p2, shlU x (32 - n) (by omega), shrU x n (by omega), orU]
 unfold rotr
 rw [UInt32.or_comm]
theorem zmH_ {K : Nat} (hK : 9 ≤ K) (D : za_) (j) (bot) {Q : List Value × AHeap → Prop} {h0 : AHeap} {s : ByteArray} (hs : s.size = 64) {yb wb : Nat} (hwb : h0.next ≤ wb)
  {f : Nat → UInt32} (hf : ∀ i, i < 16 → f i = wAt (bl s) i) {g0 : ABlk} (hyw : yb ≠ wb)
  (hj : ∀ h, zb_ h0 h → h.get yb = some g0 → h.get wb = some (.cells (filU f 64 16) 159 true 0) → Gx.Wp (j (some ⟨yb, 0, none⟩) (some ⟨wb, 0, none⟩) h) Q) :
  ∀ (d i : Nat) (h : AHeap), i + d = 16 → zb_ h0 h → h.get yb = some g0 → h.get wb = some (.cells (filU f 64 i) 159 true 0) →
   Gx.Wp (zh_ bot (d + 1) (zSd_ K D j) s (some ⟨yb, 0, none⟩) (some ⟨wb, 0, none⟩) (i : Int) h) Q := fun d => by
 induction d with
 | zero =>
  intro i h hi kp hy hb
  rw [ze_]; simp only [zSd_]
  obtain rfl : i = 16 := by omega
  exact Gx.Wp.ifn (by simp) (hj h kp hy hb)
 | succ d ih =>
  intro i h hi kp hy hb
  rw [ze_]; simp only [zSd_]
  refine Gx.Wp.ifp (by simp; omega) ?_
  have e0 : IntKind.wrap .i64 (4 * (i : Int)) = ((4 * i : Nat) : Int) := sw64 (by omega) (by omega)
  have e1 : IntKind.wrap .i64 (((4 * i : Nat) : Int) + 4) = ((4 * i + 4 : Nat) : Int) := sw64 (by omega) (by omega)
  rw [e0, e1]
  have hl : (bl s).length = 64 := by rw [zv_]; exact hs
  obtain ⟨a, ga⟩ := zy_ (l := bl s) (i := 4 * i) (by omega)
  obtain ⟨b, gb⟩ := zy_ (l := bl s) (i := 4 * i + 1) (by omega)
  obtain ⟨c, gc⟩ := zy_ (l := bl s) (i := 4 * i + 2) (by omega)
  obtain ⟨e, ge⟩ := zy_ (l := bl s) (i := 4 * i + 3) (by omega)
  have hsub := zDq_ (s := s) (lo := some ((4 * i : Nat) : Int)) (hi := some ((4 * i + 4 : Nat) : Int)) (i := 4 * i) (j := 4 * i + 4) rfl rfl (by omega) (by omega)
  have hl4 : ((bl s).take (4 * i + 4)).drop (4 * i) = [a, b, c, e] := by
   apply List.ext_getElem?
   intro q
   rw [List.getElem?_drop, List.getElem?_take]
   match q with
   | 0 => rw [if_pos (by omega)]; exact ga
   | 1 => rw [if_pos (by omega)]; exact gb
   | 2 => rw [if_pos (by omega)]; exact gc
   | 3 => rw [if_pos (by omega)]; exact ge
   | q + 4 => rw [if_neg (by omega)]; simp
  rw [hl4] at hsub
  refine Gx.Wp.bnd hsub (Gx.Wp.bnd (zOD_ (kf := K) hK D _ h (by show 4 ≤ 7; decide)) (Gx.Wp.bnd rfl (Gx.Wp.bnd (zbc_ (by omega)) ?_)))
  have ev : IntKind.wrap .u32 ((numL 0 (bl (⟨⟨[a, b, c, e]⟩⟩ : ByteArray)) : Nat) : Int) = ((f i).toNat : Int) := by
   rw [hf i (by omega)]
   unfold wAt
   rw [ga, gb, gc, ge]
   simp only [Option.getD_some]
   rw [zZw_, zLs_]
   simp only [numL]
   have := a.toNat_lt; have := b.toNat_lt; have := c.toNat_lt; have := e.toNat_lt
   rw [zLm_ _ (by omega) (by omega)]
   omega
  rw [ev]
  have hst : st1 ⟨wb, i, none⟩ (.int .u32 ((f i).toNat : Int)) h = some (h.set wb (.cells (filU f 64 (i + 1)) 159 true 0)) := by
   rw [zOb_ hb (by rw [zvi_ (by omega)]; omega) rfl, zOm_ (by omega)]
  refine Gx.Wp.bnd hst ?_
  rw [Gx.w1 (by omega)]
  exact ih (i + 1) _ (by omega) (kp.set hwb) (by rw [AHeap.get_set, if_neg hyw]; exact hy) (zJ_ _ _ _)
theorem zuH_ (K : Nat) (D : za_) (j) (bot) {Q : List Value × AHeap → Prop} {h0 : AHeap} {yb wb : Nat} (hwb : h0.next ≤ wb) {m : Nat → UInt32} {g0 : ABlk} (hyw : yb ≠ wb)
  (hj : ∀ h, zb_ h0 h → h.get yb = some g0 → h.get wb = some (.cells (filU (zu_ m) 64 64) 159 true 0) → Gx.Wp (j (some ⟨yb, 0, none⟩) (some ⟨wb, 0, none⟩) h) Q) :
  ∀ (d i : Nat) (h : AHeap), i + d = 64 → 16 ≤ i → zb_ h0 h → h.get yb = some g0 → h.get wb = some (.cells (filU (zu_ m) 64 i) 159 true 0) →
   Gx.Wp (zh_ bot (d + 1) (zee_ K D j) (some ⟨yb, 0, none⟩) (some ⟨wb, 0, none⟩) (i : Int) h) Q := fun d => by
 induction d with
 | zero =>
  intro i h hi h16 kp hy hb
  rw [ze_]; simp only [zee_]
  obtain rfl : i = 64 := by omega
  exact Gx.Wp.ifn (by simp) (hj h kp hy hb)
 | succ d ih =>
  intro i h hi h16 kp hy hb
  rw [ze_]; simp only [zee_]
  refine Gx.Wp.ifp (by simp; omega) ?_
  have e15 : IntKind.wrap .i64 ((i : Int) - 15) = ((i - 15 : Nat) : Int) := sw64 (by omega) (by omega)
  have e2 : IntKind.wrap .i64 ((i : Int) - 2) = ((i - 2 : Nat) : Int) := sw64 (by omega) (by omega)
  have e16 : IntKind.wrap .i64 ((i : Int) - 16) = ((i - 16 : Nat) : Int) := sw64 (by omega) (by omega)
  have e7 : IntKind.wrap .i64 ((i : Int) - 7) = ((i - 7 : Nat) : Int) := sw64 (by omega) (by omega)
  rw [e15, e2, e16, e7]
  have ld : ∀ jj, jj < i → ldI .u32 ⟨wb, jj, none⟩ h = some ((zu_ m jj).toNat : Int) := fun jj hjj => zqb_ hb (zMy_ hjj)
  have same : ∀ jj, jj < i → zC_ [h, h, h, h] (fun H37 => (ldI .u32 ⟨wb, jj, none⟩ H37).bind fun y36 => some (.int .u32 y36)) (.int .u32 ((zu_ m jj).toNat : Int)) := fun jj hjj H hH => by
   have : H = h := by simpa using hH
   subst this
   show (ldI .u32 ⟨wb, jj, none⟩ H).bind _ = _
   rw [ld jj hjj]; rfl
  refine Gx.Wp.bnd rfl (Gx.Wp.bnd (zbc_ (by omega)) (Gx.Wp.bnd (ld _ (by omega)) (Gx.Wp.bnd rfl (Gx.Wp.bnd (zbc_ (by omega)) (Gx.Wp.bnd (ld _ (by omega)) ?_)))))
  refine Gx.Wp.bnd (zZc_ K D _ 7 (by decide) h) (Gx.Wp.bnd (zZc_ K D _ 18 (by decide) h) (Gx.Wp.bnd (zZc_ K D _ 17 (by decide) h) (Gx.Wp.bnd (zZc_ K D _ 19 (by decide) h) ?_)))
  refine Gx.Wp.bnd rfl (Gx.Wp.bnd (zbc_ (by omega)) (Gx.Wp.bnd (ld _ (by omega)) (Gx.Wp.gp (same _ (by omega)) ?_)))
  refine Gx.Wp.bnd rfl (Gx.Wp.bnd (zbc_ (by omega)) (Gx.Wp.bnd (ld _ (by omega)) (Gx.Wp.gp (same _ (by omega)) ?_)))
  refine Gx.Wp.bnd rfl (Gx.Wp.bnd (zbc_ (by omega)) ?_)
  have s3 : Int.fdiv ((zu_ m (i - 15)).toNat : Int) 8 = ((zu_ m (i - 15) >>> 3).toNat : Int) := shrU _ 3 (by decide)
  have s10 : Int.fdiv ((zu_ m (i - 2)).toNat : Int) 1024 = ((zu_ m (i - 2) >>> 10).toNat : Int) := shrU _ 10 (by decide)
  simp only [s3, s10, xorU, addU]
  have ev : zu_ m (i - 16) + zu_ m (i - 7) + (rotr (zu_ m (i - 15)) 7 ^^^ rotr (zu_ m (i - 15)) 18 ^^^ zu_ m (i - 15) >>> 3) + (rotr (zu_ m (i - 2)) 17 ^^^ rotr (zu_ m (i - 2)) 19 ^^^ zu_ m (i - 2) >>> 10) = zu_ m i := by
   rw [zvx_ (i := i) h16]
   unfold sg0 sg1
   ac_rfl
  rw [ev]
  have hst : st1 ⟨wb, i, none⟩ (.int .u32 ((zu_ m i).toNat : Int)) h = some (h.set wb (.cells (filU (zu_ m) 64 (i + 1)) 159 true 0)) := by
   rw [zOb_ hb (by rw [zvi_ (by omega)]; omega) rfl, zOm_ (by omega)]
  refine Gx.Wp.bnd hst ?_
  rw [Gx.w1 (by omega)]
  exact ih (i + 1) _ (by omega) (by omega) (kp.set hwb) (by rw [AHeap.get_set, if_neg hyw]; exact hy) (zJ_ _ _ _)
theorem zeB_ {k0 : Nat} (hk : 100 ≤ k0) (D : za_) (s : ByteArray) (hs : s.size = 64) (h : AHeap) :
  Gx.Wp (zDg_ k0 D s h) fun r => r.1 = (List.range 64).map (fun i => encU (zu_ (wAt (bl s)) i)) ∧ zb_ h r.2 := by
 simp only [zDg_]
 let h1 := h.new (.cells (List.replicate 64 (.int .u32 0)) 159 true 0)
 let h2 := h1.new (.cells (List.replicate 64 (.int .u32 0)) 159 true 0)
 have n1 : h1.next = h.next + 1 := rfl
 have k2 : zb_ h h2 := (zb_.new h _).trans (zb_.new h1 _)
 have y2 : h2.get h.next = some (.cells (List.replicate 64 (.int .u32 0)) 159 true 0) := ((zb_.new h1 _).oth _ (by omega) (fun f => f)).trans (by simp [h1])
 have g2 : h2.get h1.next = some (.cells (filU (zu_ (wAt (bl s))) 64 0) 159 true 0) := by rw [znv_]; simp [h2]
 refine Gx.Wp.jn fun j1 hj1 => ?_
 unfold zVl_
 obtain ⟨bot1, e1⟩ := zp_ (fun _ _ _ _ _ => none) (zSd_ k0 D j1) (show 16 + 1 ≤ k0 by omega)
 rw [e1]
 refine zmH_ (by omega) D j1 bot1 hs (Nat.le_succ _) (f := zu_ (wAt (bl s))) (fun i hi => zbx_ hi) (Nat.ne_of_lt (Nat.lt_succ_self _)) ?_ 16 0 h2 (by omega) k2 y2 g2
 intro h3 k3 y3 g3
 subst hj1
 refine Gx.Wp.jn fun j2 hj2 => ?_
 unfold zDm_
 obtain ⟨bot2, e2⟩ := zp_ (fun _ _ _ _ => none) (zee_ k0 D j2) (show 48 + 1 ≤ k0 by omega)
 rw [e2]
 refine zuH_ k0 D j2 bot2 (Nat.le_succ _) (Nat.ne_of_lt (Nat.lt_succ_self _)) ?_ 48 16 h3 (by omega) (by omega) k3 y3 g3
 intro h4 k4 y4 g4
 subst hj2
 rw [zHx_] at g4
 obtain ⟨L, hL⟩ : ∃ L, L = (List.range 64).map fun i => encU (zu_ (wAt (bl s)) i) := ⟨_, rfl⟩
 rw [← hL] at g4 ⊢
 have hlen : L.length = 64 := by rw [hL]; simp
 have l3 := zpc_ (sp := none) g4 hlen
 have s3 := zkc_ (sp := none) y4 (by simp) hlen (by rw [hL]; exact zAk_ _ _) (by decide)
 have l4 := zpc_ (sp := none) (zJ_ h4 h.next (.cells L 159 true 0)) hlen
 have hd : decA 64 (.agg ⟨L⟩) = some L := by
  show (bif Nat.beq L.length 64 then some L else none) = some L
  rw [hlen]; rfl
 exact Gx.Wp.bnd rfl (Gx.Wp.bnd l3 (Gx.Wp.bnd rfl (Gx.Wp.bnd s3 (Gx.Wp.bnd rfl (Gx.Wp.bnd l4 (Gx.Wp.bnd hd (Gx.Wp.of ⟨rfl, k4.set (Nat.le_refl _)⟩)))))))
end Gz
namespace Gz
open Go Gx Go.Proofs
theorem zWE_ (n : Nat) : fixL n 8 = be64 n := by simp [fixL, be64, b8]
theorem zUF_ (x : UInt32) : fixL x.toNat 4 = zib_ x := by simp [fixL, zib_, b8]
theorem zXB_ {kf : Nat} (hkf : 9 ≤ kf) (D : za_) (n : Nat) (h : AHeap) (hn : n < 9223372036854775808) :
  ∃ h', zhe_ kf D (n : Int) 8 h = some ((⟨⟨be64 n⟩⟩ : ByteArray), h') ∧ zb_ h h' := by
 rw [← zWE_]
 simp only [zhe_]
 let H := (h.new (.cells ((List.replicate 8 (0 : UInt8)).map encB) 5 true 0)).set h.next (.cells ((fixL n 8).map encB) 5 true 0)
 refine ⟨H, bnd (v := (((⟨⟨fixL n 8⟩⟩ : ByteArray), 0), H)) ?_ rfl, zb_.set (zb_.new h _) (Nat.le_refl _)⟩
 simp only [zBg_]
 refine jn ?_
 refine ifn (by simp) ?_
 refine ifn (by simp) ?_
 refine ifn (by simp <;> omega) ?_
 refine ifn (by simp) ?_
 refine ifn (by decide) ?_
 refine ifp (by omega) ?_
 refine jn ?_
 have e8 : ((8 : Int)).toNat = 8 := rfl
 rw [e8, zyl_]
 unfold zri_
 have hb : (h.new (.cells ((List.replicate 8 (0 : UInt8)).map encB) 5 true 0)).get h.next = some (.cells ((fixP n 8 0).map encB) 5 true 0) := by rw [zyv_]; simp
 generalize hj : (fun (b7 : Slc) (h8 : AHeap) => (zXb_ h8 b7).bind _) = j
 obtain ⟨bot', e2⟩ := zp_ (α := rfT) (fun _ _ _ _ => none) (zCc_ kf D j) (show 8 + 1 ≤ kf by omega)
 rw [e2, w64 ((8 : Int) - 1) (by omega)]
 have := zLu_ kf D j bot' (n := n) (k := 8) hn (by omega) (b := h.next) (cap := 8) (sp := some 0) (e := 5) 8 0 _ (by omega) hb
 simp only [Nat.pow_zero, Nat.div_one, Int.natCast_zero, Int.sub_zero] at this
 refine this.trans ?_
 subst hj
 have hg : H.get h.next = some (.cells ((fixL n 8).map encB) 5 true 0) := by simp [H]
 have := zcd_ (cap := 8) (sp := some 0) hg
 rw [zwi_] at this
 exact bnd this rfl
theorem ztH_ : ((List.range 64).map fun i => encU (kAt i)) = shaK.map encU := by
 have e : shaK = (List.range 64).map kAt := by decide +kernel
 rw [e, List.map_map]; rfl
theorem zlB_ (k0 : Nat) (D : za_) (h : AHeap) : ∃ h', zke_ k0 D h = some ((List.range 64).map (fun i => encU (kAt i)), h') ∧ zb_ h h' := by
 simp only [zke_]
 have g1 : (h.new (.cells (List.replicate 64 (.int .u32 0)) 159 true 0)).get h.next = some (.cells (List.replicate 64 (.int .u32 0)) 159 true 0) := by simp
 obtain ⟨L, hL⟩ : ∃ L, L = shaK.map encU := ⟨_, rfl⟩
 have hlen : L.length = 64 := by rw [hL]; rfl
 have h1 : zAc_ L = true := by rw [hL]; rfl
 have s1 := zkc_ (sp := none) g1 (by simp) hlen h1 (by decide)
 have l1 := zpc_ (sp := none) (zJ_ (h.new (.cells (List.replicate 64 (.int .u32 0)) 159 true 0)) h.next (.cells L 159 true 0)) hlen
 have hd : decA 64 (.agg ⟨L⟩) = some L := by
  show (bif Nat.beq L.length 64 then some L else none) = some L
  rw [hlen]; rfl
 refine ⟨(h.new (.cells (List.replicate 64 (.int .u32 0)) 159 true 0)).set h.next (.cells L 159 true 0), ?_, zb_.set (zb_.new h _) (Nat.le_refl _)⟩
 rw [ztH_, ← hL]
 have s1' := s1
 rw [hL] at s1'
 refine bnd (v := (h.new (.cells (List.replicate 64 (.int .u32 0)) 159 true 0)).set h.next (.cells L 159 true 0)) ?_ (bnd l1 (bnd hd rfl))
 rw [hL]; exact s1'
theorem zJH_ (K : Nat) (D : za_) (j) (bot) {Q : (Int × Int × Int × Int × Int × Int × Int × Int) × AHeap → Prop} {h0 : AHeap} {m : Nat → UInt32} {lp yp : Option Addr} {wb kb vb : Nat} (hwv : wb ≠ vb) (hkv : kb ≠ vb) {gw gk : ABlk}
  (egw : gw = .cells ((List.range 64).map fun i => encU (m i)) 159 true 0) (egk : gk = .cells ((List.range 64).map fun i => encU (kAt i)) 159 true 0) (s : St)
  (hj : ∀ h, Chg (fun x => x = vb) h0 h → h.get vb = some (.cells ((wl (rounds kAt m 64 s)).map encU) 104 true 0) → Gx.Wp (j lp yp (some ⟨vb, 0, none⟩) h) Q) :
  ∀ (d i : Nat) (h : AHeap), i + d = 64 → Chg (fun x => x = vb) h0 h → h.get wb = some gw → h.get kb = some gk → h.get vb = some (.cells ((wl (rounds kAt m i s)).map encU) 104 true 0) →
   Gx.Wp (zh_ bot (d + 1) (zwe_ K D j) lp yp (some ⟨wb, 0, none⟩) (some ⟨kb, 0, none⟩) (some ⟨vb, 0, none⟩) (i : Int) h) Q := fun d => by
 induction d with
 | zero =>
  intro i h hi kp hw hk hv
  rw [ze_]; simp only [zwe_]
  obtain rfl : i = 64 := by omega
  exact Gx.Wp.ifn (by simp) (hj h kp hv)
 | succ d ih =>
  intro i h hi kp hw hk hv
  rw [ze_]; simp only [zwe_]
  refine Gx.Wp.ifp (by simp; omega) ?_
  obtain ⟨t, ht⟩ : ∃ t, t = rounds kAt m i s := ⟨_, rfl⟩
  rw [← ht] at hv
  have ldv : ∀ {jj : Nat} {x : UInt32}, (wl t)[jj]? = some x → ldI .u32 ⟨vb, jj, none⟩ h = some (x.toNat : Int) := fun {jj x} hx' => zqb_ hv (by rw [List.getElem?_map, hx']; rfl)
  have ldw : ldI .u32 ⟨wb, i, none⟩ h = some ((m i).toNat : Int) := by
   rw [egw] at hw
   exact zqb_ hw (by rw [List.getElem?_map, List.getElem?_range (by omega)]; rfl)
  have ldk : ldI .u32 ⟨kb, i, none⟩ h = some ((kAt i).toNat : Int) := by
   rw [egk] at hk
   exact zqb_ hk (by rw [List.getElem?_map, List.getElem?_range (by omega)]; rfl)
  have same : ∀ {q : Addr} {x : UInt32}, ldI .u32 q h = some (x.toNat : Int) → zC_ [h, h, h] (fun H78 => (ldI .u32 q H78).bind fun y77 => some (.int .u32 y77)) (.int .u32 (x.toNat : Int)) := fun {q x} hq H hH => by
   have : H = h := by simpa using hH
   subst this
   show (ldI .u32 q H).bind _ = _
   rw [hq]; rfl
  refine Gx.Wp.bnd rfl (Gx.Wp.bnd (ldv (jj := 0) rfl) (Gx.Wp.bnd rfl (Gx.Wp.bnd (ldv (jj := 1) rfl) (Gx.Wp.bnd rfl (Gx.Wp.bnd (ldv (jj := 2) rfl) (Gx.Wp.bnd rfl (Gx.Wp.bnd (ldv (jj := 4) rfl) (Gx.Wp.bnd rfl (Gx.Wp.bnd (ldv (jj := 5) rfl) (Gx.Wp.bnd rfl (Gx.Wp.bnd (ldv (jj := 6) rfl) ?_)))))))))))
  refine Gx.Wp.bnd (zZc_ K D _ 6 (by decide) h) (Gx.Wp.bnd (zZc_ K D _ 11 (by decide) h) (Gx.Wp.bnd (zZc_ K D _ 25 (by decide) h) ?_))
  refine Gx.Wp.bnd rfl (Gx.Wp.bnd (ldv (jj := 7) rfl) (Gx.Wp.gp (same (ldv (jj := 7) rfl)) ?_))
  refine Gx.Wp.bnd rfl (Gx.Wp.bnd (zbc_ (by omega)) (Gx.Wp.bnd ldk (Gx.Wp.gp (same ldk) ?_)))
  refine Gx.Wp.bnd rfl (Gx.Wp.bnd (zbc_ (by omega)) (Gx.Wp.bnd ldw (Gx.Wp.gp (same ldw) ?_)))
  refine Gx.Wp.bnd (zZc_ K D _ 2 (by decide) h) (Gx.Wp.bnd (zZc_ K D _ 13 (by decide) h) (Gx.Wp.bnd (zZc_ K D _ 22 (by decide) h) ?_))
  refine Gx.Wp.bnd rfl (Gx.Wp.bnd (ldv (jj := 3) rfl) (Gx.Wp.bnd rfl ?_))
  simp only [xorU, andU, zQF_, addU]
  have hst : stL 8 ⟨vb, 0, none⟩ ((wl (rnd (kAt i) (m i) t)).map encU) h = some (h.set vb (.cells ((wl (rnd (kAt i) (m i) t)).map encU) 104 true 0)) := zkc_ hv rfl rfl rfl (by decide)
  have ech : (t.e &&& t.f) ^^^ (t.g &&& ~~~t.e) = chO t.e t.f t.g := by unfold chO; rw [UInt32.and_comm t.g]
  rw [ech]
  refine Gx.Wp.bnd hst ?_
  rw [Gx.w1 (by omega)]
  refine ih (i + 1) _ (by omega) (kp.trans (Chg.set (.inr rfl))) (by rw [AHeap.get_set, if_neg hwv]; exact hw) (by rw [AHeap.get_set, if_neg hkv]; exact hk) ?_
  rw [zJ_, ht]; rfl
theorem zlH_ (K : Nat) (D : za_) (j) (bot) {Q : (Int × Int × Int × Int × Int × Int × Int × Int) × AHeap → Prop} {h0 : AHeap} {yp : Option Addr} {lb vb : Nat} (hlv : lb ≠ vb) {s t : St}
  (hj : ∀ h, Chg (fun x => x = lb) h0 h → h.get lb = some (.cells ((wl (zvh_ s t)).map encU) 104 true 0) → Gx.Wp (j (some ⟨lb, 0, none⟩) yp h) Q) :
  ∀ (d i : Nat) (h : AHeap) (l : List UInt32), i + d = 8 → l.length = 8 → (∀ j x y, j < i → (wl s)[j]? = some x → (wl t)[j]? = some y → l[j]? = some (x + y)) → (∀ j, i ≤ j → l[j]? = (wl s)[j]?) → h.get lb = some (.cells (l.map encU) 104 true 0) → h.get vb = some (.cells ((wl t).map encU) 104 true 0) → Chg (fun x => x = lb) h0 h →
   Gx.Wp (zh_ bot (d + 1) (zxe_ K D j) (some ⟨lb, 0, none⟩) yp (some ⟨vb, 0, none⟩) (i : Int) h) Q := fun d => by
 induction d with
 | zero =>
  intro i h l hi hl l1 l2 hg hv kp
  rw [ze_]; simp only [zxe_]
  obtain rfl : i = 8 := by omega
  refine Gx.Wp.ifn (by simp) (hj h kp ?_)
  have e : l = wl (zvh_ s t) := by
   apply List.ext_getElem?
   intro j
   by_cases hj : j < 8
   ·obtain ⟨x, hx⟩ := zy_ (l := wl s) (i := j) hj
    obtain ⟨y, hy⟩ := zy_ (l := wl t) (i := j) hj
    rw [l1 j x y hj hx hy]
    match j, hj with
    | 0, _ => cases hx; cases hy; rfl
    | 1, _ => cases hx; cases hy; rfl
    | 2, _ => cases hx; cases hy; rfl
    | 3, _ => cases hx; cases hy; rfl
    | 4, _ => cases hx; cases hy; rfl
    | 5, _ => cases hx; cases hy; rfl
    | 6, _ => cases hx; cases hy; rfl
    | 7, _ => cases hx; cases hy; rfl
    | n + 8, h => omega
   ·rw [List.getElem?_eq_none (by omega), List.getElem?_eq_none (by rw [zG_]; omega)]
  rw [← e]; exact hg
 | succ d ih =>
  intro i h l hi hl l1 l2 hg hv kp
  rw [ze_]; simp only [zxe_]
  refine Gx.Wp.ifp (by simp; omega) ?_
  obtain ⟨x, hxs⟩ := zy_ (l := wl s) (i := i) (by rw [zG_]; omega)
  obtain ⟨y, hyt⟩ := zy_ (l := wl t) (i := i) (by rw [zG_]; omega)
  have hlx : l[i]? = some x := by rw [l2 i (Nat.le_refl _), hxs]
  have ll : ldI .u32 ⟨lb, i, none⟩ h = some (x.toNat : Int) := zqb_ hg (by rw [List.getElem?_map, hlx]; rfl)
  have lv : ldI .u32 ⟨vb, i, none⟩ h = some (y.toNat : Int) := zqb_ hv (by rw [List.getElem?_map, hyt]; rfl)
  refine Gx.Wp.bnd rfl (Gx.Wp.bnd (zbc_ (by omega)) (Gx.Wp.bnd ll (Gx.Wp.bnd rfl (Gx.Wp.bnd (zbc_ (by omega)) (Gx.Wp.bnd lv (Gx.Wp.bnd rfl (Gx.Wp.bnd (zbc_ (by omega)) ?_)))))))
  rw [addU]
  have hst : st1 ⟨lb, i, none⟩ (.int .u32 ((x + y).toNat : Int)) h = some (h.set lb (.cells ((l.set i (x + y)).map encU) 104 true 0)) := by
   rw [zOb_ hg (by rw [List.length_map]; omega) rfl, List.map_set]; rfl
  refine Gx.Wp.bnd hst ?_
  rw [Gx.w1 (by omega)]
  refine ih (i + 1) _ (l.set i (x + y)) (by omega) (by simpa using hl) (fun j x' y' hj hx' hy' => ?_) (fun j hj => ?_) (zJ_ _ _ _) (by rw [AHeap.get_set, if_neg (fun e => hlv e.symm)]; exact hv) (kp.trans (Chg.set (.inr rfl)))
  ·by_cases e : j = i
   ·subst e
    rw [hxs] at hx'; rw [hyt] at hy'
    cases hx'; cases hy'
    rw [List.getElem?_set_self (by omega)]
   ·rw [List.getElem?_set_ne (fun q => e q.symm)]
    exact l1 j x' y' (by omega) hx' hy'
  ·rw [List.getElem?_set_ne (by omega)]
   exact l2 j (by omega)
def tup (s : St) : Int × Int × Int × Int × Int × Int × Int × Int := ((s.a.toNat : Int), (s.b.toNat : Int), (s.c.toNat : Int), (s.d.toNat : Int), (s.e.toNat : Int), (s.f.toNat : Int), (s.g.toNat : Int), (s.h.toNat : Int))
theorem zwB_ {k0 : Nat} (hk : 100 ≤ k0) (D : za_) (s : St) (b : ByteArray) (hb : b.size = 64) (h : AHeap) :
  Gx.Wp (zNh_ k0 D (tup s) b h) fun q => q.1 = tup (comp s (bl b)) ∧ zb_ h q.2 := by
 simp only [zNh_]
 let h1 := h.new (.cells ((wl s).map encU) 104 true 0)
 let h2 := h1.new (.cells [.int .u32 0, .int .u32 0, .int .u32 0, .int .u32 0, .int .u32 0, .int .u32 0, .int .u32 0, .int .u32 0] 104 true 0)
 have n1 : h1.next = h.next + 1 := rfl
 have n2 : h2.next = h.next + 2 := rfl
 have k2 : zb_ h h2 := (zb_.new h _).trans (zb_.new h1 _)
 have x2 : h2.get h.next = some (.cells ((wl s).map encU) 104 true 0) := ((zb_.new h1 _).oth _ (by omega) (fun f => f)).trans (by simp [h1])
 have y2 : h2.get h1.next = some (.cells [.int .u32 0, .int .u32 0, .int .u32 0, .int .u32 0, .int .u32 0, .int .u32 0, .int .u32 0, .int .u32 0] 104 true 0) := by simp [h2]
 obtain ⟨⟨W, h3⟩, r3, eW, k3⟩ := zeB_ hk D b hb h2
 simp only at eW k3
 refine Gx.Wp.bnd r3 ?_
 let h4 := h3.new (.cells (List.replicate 64 (.int .u32 0)) 159 true 0)
 have g4 : h4.get h3.next = some (.cells (List.replicate 64 (.int .u32 0)) 159 true 0) := by simp [h4]
 have lW : W.length = 64 := by rw [eW]; simp
 have s5 := zkc_ (sp := none) g4 (by simp) lW (by rw [eW]; exact zAk_ _ _) (by decide)
 obtain ⟨h5, e5⟩ : ∃ h5, h5 = h4.set h3.next (.cells W 159 true 0) := ⟨_, rfl⟩
 refine Gx.Wp.bnd s5 ?_
 rw [← e5]
 have k5 : zb_ h3 h5 := by rw [e5]; exact zb_.set (zb_.new h3 _) (Nat.le_refl _)
 have w5 : h5.get h3.next = some (.cells W 159 true 0) := by rw [e5]; exact zJ_ _ _ _
 have n5 : h5.next = h3.next + 1 := by rw [e5]; rfl
 obtain ⟨h6, r6, k6⟩ := zlB_ k0 D h5
 refine Gx.Wp.bnd r6 ?_
 let h7 := h6.new (.cells (List.replicate 64 (.int .u32 0)) 159 true 0)
 have g7 : h7.get h6.next = some (.cells (List.replicate 64 (.int .u32 0)) 159 true 0) := by simp [h7]
 obtain ⟨KL, eKL⟩ : ∃ KL, KL = (List.range 64).map fun i => encU (kAt i) := ⟨_, rfl⟩
 simp only
 rw [← eKL]
 have lK : KL.length = 64 := by rw [eKL]; simp
 have s8 := zkc_ (sp := none) g7 (by simp) lK (by rw [eKL]; exact zAk_ _ _) (by decide)
 obtain ⟨h8, e8⟩ : ∃ h8, h8 = h7.set h6.next (.cells KL 159 true 0) := ⟨_, rfl⟩
 refine Gx.Wp.bnd s8 ?_
 rw [← e8]
 have k8 : zb_ h6 h8 := by rw [e8]; exact zb_.set (zb_.new h6 _) (Nat.le_refl _)
 have q8 : h8.get h6.next = some (.cells KL 159 true 0) := by rw [e8]; exact zJ_ _ _ _
 have n8 : h8.next = h6.next + 1 := by rw [e8]; rfl
 have m3 := k3.nx; have m5 := k5.nx; have m6 := k6.nx
 have K28 : zb_ h2 h8 := k3.trans (k5.trans (k6.trans k8))
 have x8 : h8.get h.next = some (.cells ((wl s).map encU) 104 true 0) := (K28.oth _ (by omega) (fun f => f)).trans x2
 have y8 : h8.get h1.next = some (.cells [.int .u32 0, .int .u32 0, .int .u32 0, .int .u32 0, .int .u32 0, .int .u32 0, .int .u32 0, .int .u32 0] 104 true 0) := (K28.oth _ (by omega) (fun f => f)).trans y2
 have w8 : h8.get h3.next = some (.cells W 159 true 0) := ((k6.trans k8).oth _ (by omega) (fun f => f)).trans w5
 refine Gx.Wp.bnd (zpc_ x8 rfl) (Gx.Wp.bnd (show decC [.i .u32, .i .u32, .i .u32, .i .u32, .i .u32, .i .u32, .i .u32, .i .u32] ((wl s).map encU) = some (tup s) from rfl) ?_)
 let h11 := h8.new (.cells [.int .u32 0, .int .u32 0, .int .u32 0, .int .u32 0, .int .u32 0, .int .u32 0, .int .u32 0, .int .u32 0] 104 true 0)
 have g11 : h11.get h8.next = some (.cells [.int .u32 0, .int .u32 0, .int .u32 0, .int .u32 0, .int .u32 0, .int .u32 0, .int .u32 0, .int .u32 0] 104 true 0) := by simp [h11]
 have s12 : stL 8 ⟨h8.next, 0, none⟩ ((wl s).map encU) h11 = _ := zkc_ (sp := none) g11 rfl rfl rfl (by decide)
 obtain ⟨h12, e12⟩ : ∃ h12, h12 = h11.set h8.next (.cells ((wl s).map encU) 104 true 0) := ⟨_, rfl⟩
 refine Gx.Wp.bnd s12 ?_
 rw [← e12]
 have k12 : zb_ h8 h12 := by rw [e12]; exact zb_.set (zb_.new h8 _) (Nat.le_refl _)
 have v12 : h12.get h8.next = some (.cells ((wl s).map encU) 104 true 0) := by rw [e12]; exact zJ_ _ _ _
 have n12 : h12.next = h8.next + 1 := by rw [e12]; rfl
 have x12 := (k12.oth h.next (by omega) (fun f => f)).trans x8
 have y12 := (k12.oth h1.next (by omega) (fun f => f)).trans y8
 have w12 := (k12.oth h3.next (by omega) (fun f => f)).trans w8
 have q12 := (k12.oth h6.next (by omega) (fun f => f)).trans q8
 have K12 : zb_ h h12 := k2.trans (K28.trans k12)
 refine Gx.Wp.jn fun j1 hj1 => ?_
 unfold zmo_
 obtain ⟨bot1, b1⟩ := zp_ (fun _ _ _ _ _ _ _ => none) (zwe_ k0 D j1) (show 64 + 1 ≤ k0 by omega)
 rw [b1]
 refine zJH_ k0 D j1 bot1 (h0 := h12) (m := zu_ (wAt (bl b))) (wb := h3.next) (kb := h6.next) (vb := h8.next) (by omega) (by omega) (congrArg (fun z => ABlk.cells z 159 true 0) eW) (congrArg (fun z => ABlk.cells z 159 true 0) eKL) s ?_ 64 0 h12 (by omega) (Chg.refl _ _) w12 q12 v12
 intro h13 c13 v13
 subst hj1
 refine Gx.Wp.jn fun j2 hj2 => ?_
 unfold zqo_
 obtain ⟨bot2, b2⟩ := zp_ (fun _ _ _ _ _ => none) (zxe_ k0 D j2) (show 8 + 1 ≤ k0 by omega)
 rw [b2]
 have x13 := (c13.oth h.next (by omega) (fun e => by have e : h.next = h8.next := e; omega)).trans x12
 have y13 := (c13.oth h1.next (by omega) (fun e => by have e : h1.next = h8.next := e; omega)).trans y12
 have m13 := c13.nx
 refine zlH_ k0 D j2 bot2 (h0 := h13) (lb := h.next) (vb := h8.next) (s := s) (t := rounds kAt (zu_ (wAt (bl b))) 64 s) (by omega) ?_ 8 0 h13 (wl s) (by omega) rfl (fun j x y hj => by omega) (fun j _ => rfl) x13 v13 (Chg.refl _ _)
 intro h14 c14 l14
 subst hj2
 have y14 := (c14.oth h1.next (by omega) (fun e => by have e : h1.next = h.next := e; omega)).trans y13
 have st : stL 8 ⟨h1.next, 0, none⟩ ((wl (zvh_ s (rounds kAt (zu_ (wAt (bl b))) 64 s))).map encU) h14 = _ := zkc_ (sp := none) y14 rfl rfl rfl (by decide)
 have l15 := zpc_ (sp := none) (zJ_ h14 h1.next (.cells ((wl (zvh_ s (rounds kAt (zu_ (wAt (bl b))) 64 s))).map encU) 104 true 0)) rfl
 refine Gx.Wp.bnd rfl (Gx.Wp.bnd (zpc_ l14 rfl) (Gx.Wp.bnd (show decC [.i .u32, .i .u32, .i .u32, .i .u32, .i .u32, .i .u32, .i .u32, .i .u32] ((wl (zvh_ s (rounds kAt (zu_ (wAt (bl b))) 64 s))).map encU) = some (tup (zvh_ s (rounds kAt (zu_ (wAt (bl b))) 64 s))) from rfl) ?_))
 refine Gx.Wp.bnd rfl (Gx.Wp.bnd st (Gx.Wp.bnd rfl (Gx.Wp.bnd l15 (Gx.Wp.bnd (show decC [.i .u32, .i .u32, .i .u32, .i .u32, .i .u32, .i .u32, .i .u32, .i .u32] ((wl (zvh_ s (rounds kAt (zu_ (wAt (bl b))) 64 s))).map encU) = some (tup (zvh_ s (rounds kAt (zu_ (wAt (bl b))) 64 s))) from rfl) (Gx.Wp.of ⟨rfl, ?_⟩)))))
 have K13 : zb_ h h13 := Chg.beh K12 c13 fun x hx e => by have e : x = h8.next := e; omega
 have K14 : zb_ h h14 := Chg.beh K13 c14 fun x hx e => by have e : x = h.next := e; omega
 exact zb_.set K14 (by omega)
theorem zsH_ {k0 : Nat} (D : za_) (j) (bot) {Q : ByteArray × AHeap → Prop} {n : Nat} (hn : n ≤ 90000000) {b : List UInt8} (hb : b.length = n) {h : AHeap}
  (hj : Gx.Wp (j (⟨⟨b ++ (128 :: List.replicate (zH_ n) 0)⟩⟩ : ByteArray) (n : Int) h) Q) :
  ∀ (d i : Nat), i + d = zH_ n → Gx.Wp (zh_ bot (d + 1) (ztd_ k0 D j) (⟨⟨b ++ (128 :: List.replicate i 0)⟩⟩ : ByteArray) (n : Int) h) Q := fun d => by
 have hz : zH_ n < 64 := Nat.mod_lt _ (by decide)
 induction d with
 | zero =>
  intro i hi
  rw [ze_]; simp only [ztd_]
  obtain rfl : i = zH_ n := by omega
  have sz : (⟨⟨b ++ (128 :: List.replicate (zH_ n) 0)⟩⟩ : ByteArray).size = n + 1 + zH_ n := by rw [znc_, List.length_append, List.length_cons, List.length_replicate, hb]; omega
  have e : Int.tmod ((⟨⟨b ++ (128 :: List.replicate (zH_ n) 0)⟩⟩ : ByteArray).size : Int) 64 = 56 := by
   rw [sz, Int.tmod_eq_emod_of_nonneg (by omega)]
   unfold zH_; omega
  rw [e]
  exact Gx.Wp.ifn (by decide) hj
 | succ d ih =>
  intro i hi
  rw [ze_]; simp only [ztd_]
  have sz : (⟨⟨b ++ (128 :: List.replicate i 0)⟩⟩ : ByteArray).size = n + 1 + i := by rw [znc_, List.length_append, List.length_cons, List.length_replicate, hb]; omega
  have e : Int.tmod ((⟨⟨b ++ (128 :: List.replicate i 0)⟩⟩ : ByteArray).size : Int) 64 ≠ 56 := by
   rw [sz, Int.tmod_eq_emod_of_nonneg (by omega)]
   unfold zH_ at hi; omega
  refine Gx.Wp.ifp (by simpa using e) (Gx.Wp.ifp (by rw [sz]; show n + 1 + i + 1 ≤ _; omega) ?_)
  have ea : (⟨⟨b ++ (128 :: List.replicate i 0)⟩⟩ : ByteArray) ++ (⟨#[0]⟩ : ByteArray) = ⟨⟨b ++ (128 :: List.replicate (i + 1) 0)⟩⟩ := by
   have := zht_ (b ++ (128 :: List.replicate i 0)) [0]
   rw [List.append_assoc, List.cons_append, ← List.replicate_succ'] at this
   exact this
  rw [ea]
  exact ih (i + 1) (by omega)
theorem zAH_ {k0 : Nat} (hk : 100 ≤ k0) (D : za_) (j) (bot) {Q : ByteArray × AHeap → Prop} {lb : Nat} {s : ByteArray} (hs : s.size ≤ 100000000) (hm : s.size % 64 = 0) {s0 : St} {h0 : AHeap}
  (hj : ∀ h, Chg (fun x => x = lb) h0 h → h.get lb = some (.cells ((wl (zhb_ s0 (bl s))).map encU) 104 true 0) → Gx.Wp (j (some ⟨lb, 0, none⟩) h) Q) (hlb : lb < h0.next) :
  ∀ (d i : Nat) (t : St) (h : AHeap), i + 64 * d = s.size → zhb_ t ((bl s).drop i) = zhb_ s0 (bl s) → Chg (fun x => x = lb) h0 h → h.get lb = some (.cells ((wl t).map encU) 104 true 0) →
   Gx.Wp (zh_ bot (d + 1) (zud_ k0 D j) s (some ⟨lb, 0, none⟩) (i : Int) h) Q := fun d => by
 induction d with
 | zero =>
  intro i t h hi ha c hg
  rw [ze_]; simp only [zud_]
  have e : zhb_ t ((bl s).drop i) = t := zNk_ (by rw [List.length_drop, zv_]; omega)
  rw [e] at ha
  subst ha
  exact Gx.Wp.ifn (by simp; omega) (hj h c hg)
 | succ d ih =>
  intro i t h hi ha c hg
  rw [ze_]; simp only [zud_]
  refine Gx.Wp.ifp (by simp; omega) ?_
  have e64 : IntKind.wrap .i64 ((i : Int) + 64) = ((i + 64 : Nat) : Int) := sw64 (by omega) (by omega)
  have hsub := zDq_ (s := s) (lo := some (i : Int)) (hi := some ((i + 64 : Nat) : Int)) (i := i) (j := i + 64) rfl rfl (by omega) (by omega)
  rw [e64]
  refine Gx.Wp.bnd rfl (Gx.Wp.bnd (zpc_ hg rfl) (Gx.Wp.bnd (show decC [.i .u32, .i .u32, .i .u32, .i .u32, .i .u32, .i .u32, .i .u32, .i .u32] ((wl t).map encU) = some (tup t) from rfl) (Gx.Wp.bnd hsub ?_)))
  have szb : (⟨⟨((bl s).take (i + 64)).drop i⟩⟩ : ByteArray).size = 64 := by rw [znc_, List.length_drop, List.length_take, zv_]; omega
  refine Gx.Wp.call (zwB_ hk D t _ szb h) fun q ⟨q1, q2⟩ => ?_
  obtain ⟨v, h1⟩ := q
  simp only at q1 q2 ⊢
  subst q1
  have hg1 := (q2.oth lb (Nat.lt_of_lt_of_le hlb c.nx) (fun f => f)).trans hg
  obtain ⟨u, hu⟩ : ∃ u, u = comp t (bl (⟨⟨((bl s).take (i + 64)).drop i⟩⟩ : ByteArray)) := ⟨_, rfl⟩
  rw [← hu]
  have st : stL 8 ⟨lb, 0, none⟩ ((wl u).map encU) h1 = _ := zkc_ (sp := none) hg1 rfl rfl rfl (by decide)
  refine Gx.Wp.bnd rfl (Gx.Wp.bnd st ?_)
  refine ih (i + 64) u _ (by omega) ?_ (c.trans ((q2.keeps).trans (Chg.set (.inr rfl)))) (zJ_ _ _ _)
  rw [← ha, zMk_ (l := (bl s).drop i) (by rw [List.length_drop, zv_]; omega), List.drop_drop, hu, zLs_]
  congr 2
  rw [List.drop_take, show i + 64 - i = 64 by omega]
theorem zFH_ {k0 : Nat} (hk : 9 ≤ k0) (D : za_) (j) (bot) {Q : ByteArray × AHeap → Prop} {lb : Nat} {s : St} {h0 : AHeap} (hlb : lb < h0.next)
  (hg0 : h0.get lb = some (.cells ((wl s).map encU) 104 true 0)) (hj : ∀ h, zb_ h0 h → Gx.Wp (j (⟨⟨zzh_ s⟩⟩ : ByteArray) h) Q) :
  ∀ (d i : Nat) (h : AHeap), i + d = 8 → zb_ h0 h → Gx.Wp (zh_ bot (d + 1) (zAd_ k0 D j) (some ⟨lb, 0, none⟩) (⟨⟨(((wl s).take i).map zib_).flatten⟩⟩ : ByteArray) (i : Int) h) Q := fun d => by
 have hflat : ∀ l : List UInt32, (l.map zib_).flatten.length = 4 * l.length := fun l => by
  induction l with
  | nil => rfl
  | cons y l ih => rw [List.map_cons, List.flatten_cons, List.length_append, ih]; simp [zib_]; omega
 induction d with
 | zero =>
  intro i h hi kp
  rw [ze_]; simp only [zAd_]
  obtain rfl : i = 8 := by omega
  refine Gx.Wp.ifn (by simp) ?_
  have := hj h kp
  rw [zSx_] at this
  exact this
 | succ d ih =>
  intro i h hi kp
  rw [ze_]; simp only [zAd_]
  refine Gx.Wp.ifp (by simp; omega) ?_
  obtain ⟨x, hx⟩ := zy_ (l := wl s) (i := i) (by rw [zG_]; omega)
  have hg := (kp.oth lb hlb (fun f => f)).trans hg0
  have ll : ldI .u32 ⟨lb, i, none⟩ h = some (x.toNat : Int) := zqb_ hg (by rw [List.getElem?_map, hx]; rfl)
  have hx2 := zRf_ x
  obtain ⟨h1, r1, k1⟩ := zED_ (kf := k0) hk D x.toNat 4 h (by decide) (by decide) (by omega) (by omega)
  have ew : IntKind.wrap .i64 (x.toNat : Int) = (x.toNat : Int) := w64 _ (by omega)
  rw [zUF_] at r1
  refine Gx.Wp.bnd rfl (Gx.Wp.bnd (zbc_ (by omega)) (Gx.Wp.bnd ll ?_))
  rw [ew]
  refine Gx.Wp.bnd r1 ?_
  have s1 : (⟨⟨(((wl s).take i).map zib_).flatten⟩⟩ : ByteArray).size ≤ 32 := by rw [znc_, hflat, List.length_take, zG_]; omega
  refine Gx.Wp.ifp (by
   have : (⟨⟨zib_ x⟩⟩ : ByteArray).size = 4 := rfl
   simp only [this]
   omega) ?_
  rw [Gx.w1 (by omega), zht_]
  have := ih (i + 1) h1 (by omega) (kp.trans k1)
  rw [List.take_add_one, hx] at this
  simpa using this
theorem zQz_ {k0 : Nat} (hk : 200 ≤ k0) (D : za_) (s : ByteArray) (hs : s.size ≤ 90000000) (hks : s.size < 32 * k0) (h : AHeap) : Gx.Wp (zNf_ k0 D s h) fun q => q.1 = digB s ∧ zb_ h q.2 := by
 simp only [zNf_]
 refine Gx.Wp.ifp (by show s.size + 1 ≤ _; omega) ?_
 refine Gx.Wp.jn fun j2 hj2 => ?_
 unfold zSk_
 have hz : zH_ s.size < 64 := Nat.mod_lt _ (by decide)
 obtain ⟨bot2, b2⟩ := zp_ (fun _ _ _ => none) (ztd_ k0 D j2) (show zH_ s.size + 1 ≤ k0 by omega)
 rw [b2]
 have e0 : s ++ (⟨#[128]⟩ : ByteArray) = ⟨⟨bl s ++ (128 :: List.replicate 0 0)⟩⟩ := zht_ (bl s) [128]
 rw [e0]
 refine zsH_ (k0 := k0) D j2 bot2 hs (zv_ s) ?_ (zH_ s.size) 0 (by omega)
 subst hj2
 dsimp only
 have e8 : IntKind.wrap .i64 ((s.size : Int) * 8) = ((s.size * 8 : Nat) : Int) := sw64 (by omega) (by omega)
 rw [e8]
 obtain ⟨h5, r5, k5⟩ := zXB_ (kf := k0) (by omega) D (s.size * 8) h (by omega)
 refine Gx.Wp.bnd r5 ?_
 have sz1 : (⟨⟨bl s ++ (128 :: List.replicate (zH_ s.size) 0)⟩⟩ : ByteArray).size = s.size + 1 + zH_ s.size := by rw [znc_, List.length_append, List.length_cons, List.length_replicate, zv_]; omega
 refine Gx.Wp.ifp (by
  have : (⟨⟨be64 (s.size * 8)⟩⟩ : ByteArray).size = 8 := rfl
  simp only [this, sz1]
  omega) ?_
 obtain ⟨w, hw⟩ : ∃ w : ByteArray, w = (⟨⟨bl s ++ (128 :: List.replicate (zH_ s.size) 0)⟩⟩ : ByteArray) ++ (⟨⟨be64 (s.size * 8)⟩⟩ : ByteArray) := ⟨_, rfl⟩
 have blw : bl w = bl s ++ padT s.size := by
  rw [hw, zht_, zLs_, List.append_assoc]; rfl
 have szw : w.size = s.size + 1 + zH_ s.size + 8 := by
  rw [← zv_, blw, List.length_append, zv_]
  simp only [padT, List.length_append, List.length_cons, List.length_replicate, zEl_]
  omega
 have hm : w.size % 64 = 0 := by rw [szw]; unfold zH_; omega
 let h6 := h5.new (.cells [.int .u32 0, .int .u32 0, .int .u32 0, .int .u32 0, .int .u32 0, .int .u32 0, .int .u32 0, .int .u32 0] 104 true 0)
 have g6 : h6.get h5.next = some (.cells [.int .u32 0, .int .u32 0, .int .u32 0, .int .u32 0, .int .u32 0, .int .u32 0, .int .u32 0, .int .u32 0] 104 true 0) := by simp [h6]
 have s7 : stL 8 ⟨h5.next, 0, none⟩ ((wl st0).map encU) h6 = _ := zkc_ (sp := none) g6 rfl rfl rfl (by decide)
 refine Gx.Wp.bnd s7 ?_
 obtain ⟨h7, e7⟩ : ∃ h7, h7 = h6.set h5.next (.cells ((wl st0).map encU) 104 true 0) := ⟨_, rfl⟩
 rw [← e7]
 have k7 : zb_ h5 h7 := by rw [e7]; exact zb_.set (zb_.new h5 _) (Nat.le_refl _)
 have g7 : h7.get h5.next = some (.cells ((wl st0).map encU) 104 true 0) := by rw [e7]; exact zJ_ _ _ _
 have n7 : h7.next = h5.next + 1 := by rw [e7]; rfl
 refine Gx.Wp.jn fun j1 hj1 => ?_
 simp only
 rw [← hw]
 unfold znl_
 obtain ⟨d, hd⟩ : ∃ d, 64 * d = w.size := ⟨w.size / 64, by omega⟩
 obtain ⟨bot1, b1⟩ := zp_ (fun _ _ _ _ => none) (zud_ k0 D j1) (show d + 1 ≤ k0 by omega)
 rw [b1]
 refine zAH_ (by omega) D j1 bot1 (by omega) hm (s0 := st0) (h0 := h7) ?_ (by omega) d 0 st0 h7 (by omega) rfl (Chg.refl _ _) g7
 intro h8 c8 g8
 subst hj1
 refine Gx.Wp.jn fun j0 hj0 => ?_
 unfold zdl_
 obtain ⟨bot0, b0⟩ := zp_ (fun _ _ _ _ => none) (zAd_ k0 D j0) (show 8 + 1 ≤ k0 by omega)
 rw [b0]
 have k8 : zb_ h h8 := Chg.beh (k5.trans k7) c8 fun x hx e => by have e : x = h5.next := e; have := k5.nx; omega
 refine zFH_ (by omega) D j0 bot0 (h0 := h8) (Nat.lt_of_lt_of_le (by omega) c8.nx) g8 ?_ 8 0 h8 (by omega) (Chg.refl _ _)
 intro h9 k9
 subst hj0
 refine Gx.Wp.of ⟨?_, k8.trans k9⟩
 show (⟨⟨zzh_ (zhb_ st0 (bl w))⟩⟩ : ByteArray) = digB s
 unfold digB zns_
 rw [blw, zv_]
end Gz
namespace Gz
open Go Gx Go.Proofs
end Gz
namespace Gz
open Go Gx Go.Proofs
theorem zEG_ (a b : ByteArray) : bl (a ++ b) = bl a ++ bl b := by simp [bl]
theorem zHb_ (x : Prt) : (enc2 x).length = 2 := rfl
theorem zUw_ (x : Prt) : zAc_ (enc2 x) = true := rfl
def chkP (k m : Nat) (n : Int) : List Prt → Int
 | [] => 0
 | x :: l => if zNb_ k m n x ≠ 0 then zNb_ k m n x else chkP k m n l
theorem ztA_ (k m : Nat) (n : Int) : ∀ (ps out : List Prt), unl k m n ps out = if chkP k m n ps ≠ 0 then ([], chkP k m n ps) else (ps.foldl (zwb_ k) out, 0)
 | [], out => by simp [unl, chkP]
 | x :: l, out => by
  have e1 : unl k m n (x :: l) out = if zNb_ k m n x ≠ 0 then ([], zNb_ k m n x) else unl k m n l (zwb_ k out x) := rfl
  have e2 : chkP k m n (x :: l) = if zNb_ k m n x ≠ 0 then zNb_ k m n x else chkP k m n l := rfl
  by_cases h : zNb_ k m n x ≠ 0
  ·rw [if_pos h] at e1 e2
   rw [e1, e2, if_pos h]
  ·rw [if_neg h] at e1 e2
   rw [e1, e2, ztA_ k m n l (zwb_ k out x)]; rfl
theorem zmv_ {k : Nat} : ∀ (l out : List Prt), k ≤ out.length → l.foldl (zwb_ k) out = out
 | [], _, _ => rfl
 | x :: l, out, h => by
  have ht : zwb_ k out x = out := by unfold zwb_; rw [if_neg]; rintro ⟨_, q⟩; omega
  rw [List.foldl_cons, ht]; exact zmv_ l out h
theorem zUG_ (K : Nat) (D : za_) (j) (bot) {Q : Slc × AHeap → Prop} (p : Option Addr) (l o : Slc) {h : AHeap} {ps out : List Prt} (R : RowW 2 enc2 h l ps) (Ro : RowW 2 enc2 h o out) (hl : out.length ≤ 100000) {i : Nat} {x : Prt} (hx : ps[i]? = some x)
  (hj : Gx.Wp (j p l o (i : Int) (decide (x.1 ∈ idxs out)) h) Q) :
  ∀ (d t : Nat) (b : Bool), t + d = out.length → (b || decide (x.1 ∈ idxs (out.drop t))) = decide (x.1 ∈ idxs out) → Gx.Wp (zh_ bot (d + 1) (zIb_ K D j) p l o (i : Int) b (t : Int) h) Q := fun d => by
 induction d with
 | zero =>
  intro t b ht hb
  rw [ze_]; simp only [zIb_]
  obtain rfl : t = out.length := by omega
  rw [List.drop_length] at hb
  have hb : b = decide (x.1 ∈ idxs out) := by simpa [idxs] using hb
  subst hb
  exact Gx.Wp.ifn (by rw [Ro.len]; simp) hj
 | succ d ih =>
  intro t b ht hb
  rw [ze_]; simp only [zIb_]
  refine Gx.Wp.ifp (by rw [Ro.len]; simp; omega) ?_
  refine Gx.Wp.jn fun j2 hj2 => ?_
  obtain ⟨y, hy⟩ := zy_ (l := out) (i := t) (by omega)
  rw [zHh_ hy] at hb
  have ex : idxs (y :: out.drop (t + 1)) = y.1 :: idxs (out.drop (t + 1)) := rfl
  rw [ex] at hb
  cases b with
  | true =>
   refine Gx.Wp.ifp rfl ?_
   subst hj2
   simp only
   rw [Gx.w1 (by omega)]
   exact ih (t + 1) true (by omega) (by simpa using hb)
  | false =>
   refine Gx.Wp.ifn (by decide) ?_
   obtain ⟨q, q1, _, q2, _⟩ := Ro.ld zHb_ (by decide) hy
   obtain ⟨r, r1, _, r2, _⟩ := R.ld zHb_ (by decide) hx
   refine Gx.Wp.bnd q1 (Gx.Wp.bnd (q2 0 .i64 y.1 rfl) (Gx.Wp.bnd r1 (Gx.Wp.bnd (r2 0 .i64 x.1 rfl) ?_)))
   subst hj2
   simp only
   rw [Gx.w1 (by omega)]
   refine ih (t + 1) _ (by omega) ?_
   rw [← hb, Bool.eq_iff_iff]
   simp only [Bool.or_eq_true, beq_iff_eq, decide_eq_true_eq, Bool.false_or, List.mem_cons]
   exact ⟨fun a => a.imp Eq.symm id, fun a => a.imp Eq.symm id⟩
theorem zdH_ {k0 : Nat} (D : za_) (bot) {h0 : AHeap} {pb B k m : Nat} (p : PR h0 pb B k m) (hk : k ≤ 255) {l : Slc} {ps : List Prt} (R : RowW 2 enc2 h0 l ps) (hps : ps.length ≤ 100000) (hk0 : ps.length < k0) :
  ∀ (d i : Nat) (o : Slc) (out : List Prt) (h : AHeap), i + d = ps.length → out.length ≤ i → zb_ h0 h → AccW 2 enc2 65 h0.next h o out →
   Gx.Wp (zh_ bot (d + 1) (zKb_ k0 D fun (out1 : Slc) (h2 : AHeap) => some (out1, h2)) (some ⟨pb, 0, none⟩) l o (i : Int) h) fun q => zb_ h0 q.2 ∧ AccW 2 enc2 65 h0.next q.2 q.1 ((ps.drop i).foldl (zwb_ k) out) := fun d => by
 induction d with
 | zero =>
  intro i o out h hi ho kp A
  rw [ze_]; simp only [zKb_]
  obtain rfl : i = ps.length := by omega
  refine Gx.Wp.jn fun j hj => ?_
  refine Gx.Wp.ifn (by rw [R.len]; simp) ?_
  subst hj
  rw [List.drop_length]
  exact Gx.Wp.ifn (by decide) (Gx.Wp.of ⟨kp, A⟩)
 | succ d ih =>
  intro i o out h hi ho kp A
  rw [ze_]; simp only [zKb_]
  refine Gx.Wp.jn fun j hj => ?_
  refine Gx.Wp.ifp (by rw [R.len]; simp; omega) ?_
  have ph := p.keeps kp
  have len := (A.row zHb_).len
  refine Gx.Wp.bnd rfl (Gx.Wp.bnd (zM_ ph.blk rfl) ?_)
  by_cases c : out.length < k
  ·obtain ⟨x, hx⟩ := zy_ (l := ps) (i := i) (by omega)
   have e1 : decide ((o.len : Int) < (k : Int)) = true := by rw [len]; simpa using c
   rw [e1]
   subst hj
   refine Gx.Wp.ifp rfl ?_
   refine Gx.Wp.jn fun j2 hj2 => ?_
   refine Gx.Wp.jn fun j3 hj3 => ?_
   unfold zLh_
   obtain ⟨bot1, eb⟩ := zp_ (fun _ _ _ _ _ _ _ => none) (zIb_ k0 D j3) (show out.length + 1 ≤ k0 by omega)
   rw [eb]
   have Rh := R.keeps kp
   refine zUG_ k0 D j3 bot1 _ l o Rh (A.row zHb_) (by omega) hx ?_ out.length 0 false (by omega) (by simp)
   subst hj3
   rw [zHh_ hx, List.foldl_cons]
   by_cases t : x.1 ∈ idxs out
   ·have ht : zwb_ k out x = out := by unfold zwb_; rw [if_neg fun q => q.1 t]
    rw [ht]
    refine Gx.Wp.ifn (by simp [t]) ?_
    subst hj2
    simp only
    rw [Gx.w1 (by omega)]
    exact ih (i + 1) o out h (by omega) (by omega) kp A
   ·have ht : zwb_ k out x = out ++ [x] := by unfold zwb_; rw [if_pos ⟨t, c⟩]
    rw [ht]
    refine Gx.Wp.ifp (by simp [t]) ?_
    obtain ⟨q, q1, q2, _, _⟩ := Rh.ld zHb_ (by decide) hx
    refine Gx.Wp.bnd q1 (Gx.Wp.bnd q2 (Gx.Wp.bnd (dec2 x) ?_))
    refine Gx.Wp.bnd (zJn_ zHb_ x _) ?_
    obtain ⟨s', h', a1, A2, c2, _⟩ := A.push zHb_ zUw_ x (bytes := 24) (by decide) (by omega) kp.nx
    refine Gx.Wp.bnd a1 ?_
    subst hj2
    simp only
    rw [Gx.w1 (by omega)]
    exact ih (i + 1) s' (out ++ [x]) h' (by omega) (by simp; omega) (Chg.beh kp c2 fun y hy ⟨a, ha, e⟩ => by have := (A.lt a ha).2; omega) A2
  ·have e1 : decide ((o.len : Int) < (k : Int)) = false := by rw [len]; simpa using c
   rw [e1]
   subst hj
   rw [zmv_ _ _ (by omega)]
   exact Gx.Wp.ifn (by decide) (Gx.Wp.of ⟨kp, A⟩)
theorem zky_ {k0 : Nat} (D : za_) {h : AHeap} {pb B k m : Nat} (p : PR h pb B k m) (hk : k ≤ 255) {l : Slc} {ps : List Prt} (R : RowW 2 enc2 h l ps) (hps : ps.length ≤ 100000) (hk0 : ps.length < k0) :
  Gx.Wp (zHc_ k0 D (some ⟨pb, 0, none⟩) l h) fun q => zb_ h q.2 ∧ AccW 2 enc2 65 h.next q.2 q.1 (ps.foldl (zwb_ k) []) := by
 simp only [zHc_]
 refine Gx.Wp.jn fun j hj => ?_
 unfold zlh_
 obtain ⟨bot, eb⟩ := zp_ (fun _ _ _ _ _ => none) (zKb_ k0 D j) (show ps.length + 1 ≤ k0 by omega)
 rw [eb]
 subst hj
 exact zdH_ D bot p hk R hps hk0 ps.length 0 _ [] h (by omega) (by simp) (Chg.refl _ _) (AccW.nil _ _ _ _ _)
theorem zNG_ {k0 : Nat} (D : za_) (j) (bot) {Q : (ByteArray × Int) × AHeap → Prop} {h : AHeap} {pb B k m : Nat} (p : PR h pb B k m) (hR : k + m ≤ 255) {l : Slc} {ps : List Prt} (R : RowW 2 enc2 h l ps) (hps : ps.length ≤ 100000) (long n : Int)
  (hno : chkP k m n ps ≠ 0 → Q ((⟨#[]⟩, chkP k m n ps), h)) (hok : chkP k m n ps = 0 → Gx.Wp (j (some ⟨pb, 0, none⟩) l long h) Q) :
  ∀ (d i : Nat), i + d = ps.length → chkP k m n (ps.drop i) = chkP k m n ps → Gx.Wp (zh_ bot (d + 1) (zic_ k0 D j) (some ⟨pb, 0, none⟩) l long n (i : Int) h) Q := fun d => by
 induction d with
 | zero =>
  intro i hi he
  rw [ze_]; simp only [zic_]
  obtain rfl : i = ps.length := by omega
  rw [List.drop_length] at he
  exact Gx.Wp.ifn (by rw [R.len]; simp) (hok he.symm)
 | succ d ih =>
  intro i hi he
  rw [ze_]; simp only [zic_]
  refine Gx.Wp.ifp (by rw [R.len]; simp; omega) ?_
  obtain ⟨x, hx⟩ := zy_ (l := ps) (i := i) (by omega)
  obtain ⟨q, q1, _, q2, q3⟩ := R.ld zHb_ (by decide) hx
  rw [zHh_ hx] at he
  simp only [chkP] at he
  refine Gx.Wp.jn fun j2 hj2 => ?_
  have l0 := q2 0 .i64 x.1 rfl
  refine Gx.Wp.bnd q1 (Gx.Wp.bnd l0 ?_)
  have key : ∀ y : Bool, (y = true ↔ ¬ (0 ≤ x.1 ∧ x.1 < ((k + m : Nat) : Int))) → Gx.Wp (j2 (some ⟨pb, 0, none⟩) l long n (i : Int) y h) Q := by
   intro y hy
   subst hj2
   by_cases g1 : 0 ≤ x.1 ∧ x.1 < ((k + m : Nat) : Int)
   ·have hy0 : y = false := by cases y with | true => exact absurd g1 (hy.1 rfl) | false => rfl
    subst hy0
    refine Gx.Wp.ifn (by decide) ?_
    refine Gx.Wp.bnd q1 (Gx.Wp.bnd (q3 1 x.2 rfl) ?_)
    by_cases g2 : (x.2.size : Int) = n
    ·refine Gx.Wp.ifn (by simpa using g2) ?_
     have hg : zNb_ k m n x = 0 := by unfold zNb_; rw [if_neg (by simpa using g1), if_neg (by simpa using g2)]
     rw [if_neg (by simpa using hg)] at he
     rw [Gx.w1 (by omega)]
     exact ih (i + 1) (by omega) he
    ·refine Gx.Wp.ifp (by simpa using g2) ?_
     have hg : zNb_ k m n x = 4 := by unfold zNb_; rw [if_neg (by simpa using g1), if_pos (by simpa using g2)]
     rw [if_pos (by rw [hg]; decide), hg] at he
     rw [← he] at hno
     exact Gx.Wp.of (hno (by decide))
   ·have hy0 : y = true := hy.2 g1
    subst hy0
    refine Gx.Wp.ifp rfl ?_
    have hg : zNb_ k m n x = 1 := by unfold zNb_; rw [if_pos (by simpa using g1)]
    rw [if_pos (by rw [hg]; decide), hg] at he
    rw [← he] at hno
    exact Gx.Wp.of (hno (by decide))
  by_cases c : x.1 < 0
  ·exact Gx.Wp.ifp (by simpa using c) (key true ⟨fun _ q => by omega, fun _ => rfl⟩)
  ·refine Gx.Wp.ifn (by simpa using c) ?_
   refine Gx.Wp.bnd q1 (Gx.Wp.bnd l0 (Gx.Wp.bnd rfl (Gx.Wp.bnd (zM_ p.blk rfl) (Gx.Wp.bnd rfl (Gx.Wp.bnd (zM_ p.blk rfl) ?_)))))
   rw [w64 ((k : Int) + (m : Int)) (by omega)]
   refine key _ ?_
   rw [decide_eq_true_eq]
   omega
theorem zMG_ {k0 : Nat} (D : za_) (j) (bot) {Q : (ByteArray × Int) × AHeap → Prop} {h0 : AHeap} {l : Slc} {qs : List Prt} (R : RowW 2 enc2 h0 l qs) (hq : qs.length ≤ 1000) (p : Option Addr) (long : Int)
  (hj : ∀ rs ds h, zb_ h0 h → Acc encI 3 h0.next h rs (idxs qs) → Acc encS 9 h0.next h ds (zpb_ qs) → Gx.Wp (j p long rs ds h) Q) :
  ∀ (d i : Nat) (h : AHeap) (rs ds : Slc), i + d = qs.length → zb_ h0 h → Acc encI 3 h0.next h rs (idxs (qs.take i)) → Acc encS 9 h0.next h ds (zpb_ (qs.take i)) → zdj_ rs ds →
  Gx.Wp (zh_ bot (d + 1) (zdc_ k0 D j) p l long rs ds (i : Int) h) Q := fun d => by
 induction d with
 | zero =>
  intro i h rs ds hi kh A Bd _
  obtain rfl : i = qs.length := by omega
  rw [List.take_length] at A Bd
  rw [ze_]; simp only [zdc_]
  exact Gx.Wp.ifn (by rw [R.len]; simp) (hj rs ds h kh A Bd)
 | succ d ih =>
  intro i h rs ds hi kh A Bd ap
  rw [ze_]; simp only [zdc_]
  refine Gx.Wp.ifp (by rw [R.len]; simp; omega) ?_
  obtain ⟨x, hx⟩ := zy_ (l := qs) (i := i) (by omega)
  obtain ⟨q, q1, _, q2, _⟩ := (R.keeps kh).ld zHb_ (by decide) hx
  refine Gx.Wp.bnd q1 (Gx.Wp.bnd (q2 0 .i64 x.1 rfl) (Gx.Wp.bnd zTj_ ?_))
  have n0 := kh.nx
  obtain ⟨rs2, h1, a1, A1, c1, r1⟩ := A.push (bytes := 8) (fun _ => rfl) x.1 (by simp [idxs]; omega) (by decide) n0
  refine Gx.Wp.bnd a1 ?_
  have B1 : Acc encS 9 h0.next h1 ds (zpb_ (qs.take i)) := Bd.chg c1 (fun a ha e => by
   obtain ⟨a2, ha2, he⟩ := e
   exact ap a2 a ha2 ha he.symm)
  have kh1 : zb_ h0 h1 := Chg.beh kh c1 (fun w hw e => by
   obtain ⟨a2, ha2, rfl⟩ := e
   have := (A.lt a2 ha2).2; omega)
  obtain ⟨q', q1', _, _, q3⟩ := (R.keeps kh1).ld zHb_ (by decide) hx
  refine Gx.Wp.bnd q1' (Gx.Wp.bnd (q3 1 x.2 rfl) (Gx.Wp.bnd zTj_ ?_))
  obtain ⟨ds2, h2, b1, B2, c2, r2⟩ := B1.push (bytes := 16) zRr_ x.2 (by simp [zpb_]; omega) (by decide) kh1.nx
  refine Gx.Wp.bnd b1 ?_
  have hap : ∀ a b, rs2.a = some a → ds.a = some b → a.block ≠ b.block := fun a b ha hb e => by
   have := r1 a ha
   have := (Bd.lt b hb).1
   omega
  have A2 : Acc encI 3 h0.next h2 rs2 (idxs (qs.take i) ++ [x.1]) := A1.chg c2 (fun a ha e => by
   obtain ⟨a2, ha2, he⟩ := e
   exact hap a a2 ha ha2 he)
  have e1 : idxs (qs.take i) ++ [x.1] = idxs (qs.take (i + 1)) := zMn_ (f := fun z : Prt => z.1) hx
  have e2 : zpb_ (qs.take i) ++ [x.2] = zpb_ (qs.take (i + 1)) := zMn_ (f := fun z : Prt => z.2) hx
  rw [e1] at A2
  rw [e2] at B2
  rw [Gx.w1 (by omega)]
  refine ih (i + 1) h2 rs2 ds2 (by omega) (Chg.beh kh1 c2 fun w hw e => by
   obtain ⟨a2, ha2, rfl⟩ := e
   have := (B1.lt a2 ha2).2; omega) A2 B2 fun a b ha hb e => ?_
  have := (A1.lt a ha).1
  have := r2 b hb
  omega
theorem zWG_ {k0 : Nat} (hk0 : 70000 ≤ k0) (D : za_) (j) (bot) {Q : (ByteArray × Int) × AHeap → Prop} {hs : AHeap} {pb B k m : Nat} (p : PR hs pb B k m) (hk : 0 < k) (hk2 : k ≤ 255) {ab B2 : Nat} {sp : Option Nat} (hsp : spOk sp 1 = true) {qs : List Prt} (hlen : qs.length = k) {n : Nat} (hsz : ∀ x ∈ qs, x.2.size = n) (hn : n ≤ 66000)
  (hps : ∀ i, i < k → (zJc_ k qs i).size = n)
  (b1 : hs.get ab = some (.cells (zg_ (k : Int) (k : Int) (zk_ B2 (k * k) sp)) 97 true 0)) (b2 : ab < hs.next) (d1 : hs.get B2 = some (outB encI 3 (matN (k * k) (invR k qs)))) (d2 : B2 < hs.next)
  {ds : Slc} (Rd : Row encS hs ds (zpb_ qs)) (long : Int) (hj : ∀ h, zb_ hs h → Gx.Wp (j long ⟨⟨zHd_ (zO_ k qs)⟩⟩ h) Q) :
  ∀ (d i : Nat) (h : AHeap) (s : ByteArray), i + d = k → zb_ hs h → s = ⟨⟨zHd_ ((List.range i).map (zJc_ k qs))⟩⟩ →
  Gx.Wp (zh_ bot (d + 1) (zgc_ k0 D j) (some ⟨pb, 0, none⟩) long ds (some ⟨ab, 0, none⟩) s (i : Int) h) Q := fun d => by
 induction d with
 | zero =>
  intro i h s hi kh hse
  obtain rfl : i = k := by omega
  rw [ze_]; simp only [zgc_]
  refine Gx.Wp.bnd rfl (Gx.Wp.bnd (zM_ (p.keeps kh).blk rfl) ?_)
  rw [hse]
  exact Gx.Wp.ifn (by simp) (hj h kh)
 | succ d ih =>
  intro i h s hi kh hse
  rw [ze_]; simp only [zgc_]
  have ph := p.keeps kh
  have e1 : h.get ab = some (.cells (zg_ (k : Int) (k : Int) (zk_ B2 (k * k) sp)) 97 true 0) := (kh.oth _ b2 fun f => f).trans b1
  have g1 : h.get B2 = some (outB encI 3 (matN (k * k) (invR k qs))) := (kh.oth _ d2 fun f => f).trans d1
  have hle : i * k + k ≤ k * k := by have := Nat.mul_le_mul_right k (show i + 1 ≤ k by omega); rw [Nat.succ_mul] at this; exact this
  have hN : k * k ≤ 65025 := Nat.le_trans (Nat.mul_le_mul hk2 hk2) (by decide)
  refine Gx.Wp.bnd rfl (Gx.Wp.bnd (zM_ ph.blk rfl) ?_)
  refine Gx.Wp.ifp (by simp; omega) ?_
  have hL : ldL (⟨ab, 0 + 2, none⟩ : Addr) h = some (zk_ B2 (k * k) sp) := by simp [ldL, AHeap.rd1, e1, zg_, decL, zk_]
  refine Gx.Wp.bnd rfl (Gx.Wp.bnd hL (Gx.Wp.bnd rfl (Gx.Wp.bnd (zM_ ph.blk rfl) (Gx.Wp.bnd rfl (Gx.Wp.bnd (zM_ ph.blk rfl) (Gx.Wp.bnd (zgv_ hsp hk hle (by omega) (by omega)) ?_))))))
  have Rc := zwv_ g1 (Nat.lt_of_lt_of_le d2 kh.nx) hle (k * k - i * k) sp
  have dl : (zpb_ qs).length = k := by simp [zpb_, hlen]
  have rl : ((List.range k).map fun j => ((invR k qs (i * k + j) : Nat) : Int)).length = k := by simp
  have mb : ∀ s ∈ zpb_ qs, s.size ≤ 66000 := fun s hs => by
   obtain ⟨x, hx, rfl⟩ := List.mem_map.1 hs
   rw [hsz x hx]; exact hn
  obtain ⟨h2, r2, k2⟩ := zGD_ (k := k0) (by omega) D (Rd.keeps kh) Rc (by rw [dl]; omega) (by rw [rl]; omega) (fun x hx => by have := mb x hx; omega) (by rw [dl]; omega) (by rw [rl]; omega) (fun x hx => by have := mb x hx; omega)
  refine Gx.Wp.bnd r2 ?_
  have hpi : (mixA (zpb_ qs) ((List.range k).map fun j => ((invR k qs (i * k + j) : Nat) : Int))).1 = zJc_ k qs i := rfl
  simp only [hpi]
  have fl : (zHd_ ((List.range i).map (zJc_ k qs))).length = i * n := by
   have := zfj_ (n := n) ((List.range i).map (zJc_ k qs)) (fun x hx => by
    obtain ⟨t, ht, rfl⟩ := List.mem_map.1 hx
    exact hps t (by have := List.mem_range.1 ht; omega))
   rw [List.length_map, List.length_range] at this
   exact this
  have hin : i * n ≤ 255 * 66000 := Nat.mul_le_mul (by omega) hn
  have ssz : s.size = i * n := by rw [hse, znc_, fl]
  refine Gx.Wp.ifp (by rw [ssz, hps i (by omega)]; omega) ?_
  rw [Gx.w1 (by omega)]
  refine ih (i + 1) h2 _ (by omega) (kh.trans k2) ?_
  apply zly_
  rw [hse, zEG_]
  show zHd_ ((List.range i).map (zJc_ k qs)) ++ bl (zJc_ k qs i) = zHd_ ((List.range (i + 1)).map (zJc_ k qs))
  rw [List.range_succ, List.map_append]
  simp [zHd_]
theorem zzG_ {k m : Nat} (hk : 0 < k) (hR : k + m ≤ 255) {ps : List Prt} {long : Int} (hl : 0 ≤ long ∧ long ≤ 65536) (g : GoodK k m (nE k long.toNat) ps) : Gx.subS (⟨⟨zHd_ (zO_ k ps)⟩⟩ : ByteArray) none (some long) = some (cutA k ps long) := by
 have pl : (zO_ k ps).length = k := by simp [zO_]
 have fl : (zHd_ (zO_ k ps)).length = k * nE k long.toNat := by
  have := zfj_ (n := nE k long.toNat) (zO_ k ps) (fun x hx => by
   obtain ⟨i, hi, rfl⟩ := List.mem_map.1 hx
   exact zyi_ hk hR g (List.mem_range.1 hi))
  rw [pl] at this; exact this
 have hge := zuB_ hk long.toNat
 have hsz : (⟨⟨zHd_ (zO_ k ps)⟩⟩ : ByteArray).size = k * nE k long.toNat := by rw [znc_, fl]
 have := zDq_ (s := (⟨⟨zHd_ (zO_ k ps)⟩⟩ : ByteArray)) (lo := none) (hi := some long) (i := 0) (j := long.toNat) (by simp; omega) rfl (by omega) (by rw [hsz]; exact hge)
 rw [this, List.drop_zero]; rfl
theorem zTB_ {k0 : Nat} (hk0 : 200000 ≤ k0) (D : za_) {h : AHeap} {pb B k m : Nat} (p : PR h pb B k m) (hk : 0 < k) (hR : k + m ≤ 255) {l : Slc} {ps : List Prt} (R : RowW 2 enc2 h l ps) (hps : ps.length ≤ 100000) (long : Int) :
  Gx.Wp (zme_ k0 D (some ⟨pb, 0, none⟩) l long h) fun q => q.1 = zEd_ k m ps long ∧ zb_ h q.2 := by
 simp only [zme_]
 refine Gx.Wp.bnd (zGB_ k0 D p hk (by omega) long) ?_
 by_cases ce : (zUd_ k long).2 = 0
 ·refine Gx.Wp.ifn (by simpa using ce) ?_
  refine Gx.Wp.jn fun j hj => ?_
  unfold zRi_
  obtain ⟨bot2, e2⟩ := zp_ (fun _ _ _ _ _ _ => none) (zic_ k0 D j) (show ps.length + 1 ≤ k0 by omega)
  rw [e2]
  have eU : unlA k m ps long = unl k m (zUd_ k long).1 ps [] := by unfold unlA; rw [if_neg (by simpa using ce)]
  rw [ztA_] at eU
  refine zNG_ D j bot2 p hR R hps long (zUd_ k long).1 (fun hc => ?_) (fun hc => ?_) ps.length 0 (by omega) rfl
  ·refine ⟨?_, Chg.refl _ _⟩
   rw [if_pos hc] at eU
   unfold zEd_
   rw [eU, if_pos hc]
  ·rw [if_neg (by simpa using hc)] at eU
   subst hj
   refine Gx.Wp.call (zky_ (k0 := k0) D p (by omega) R hps (by omega)) fun q ⟨k1, A1⟩ => ?_
   obtain ⟨o, h1⟩ := q
   simp only at k1 A1 ⊢
   have p1 := p.keeps k1
   refine Gx.Wp.bnd rfl (Gx.Wp.bnd (zM_ p1.blk rfl) ?_)
   have olen := (A1.row zHb_).len
   by_cases c2 : (ps.foldl (zwb_ k) []).length < k
   ·refine Gx.Wp.ifp (by rw [olen]; simpa using c2) (Gx.Wp.of ⟨?_, k1⟩)
    unfold zEd_
    rw [eU, if_neg (by simp), if_pos c2]
   ·refine Gx.Wp.ifn (by rw [olen]; simpa using c2) ?_
    obtain ⟨hl, g⟩ := zgp_ (m := m) hk (ps := ps) (long := long) (by rw [eU]) (by rw [eU]; exact c2)
    rw [eU] at g
    have g : GoodK k m (nE k long.toNat) (ps.foldl (zwb_ k) []) := g
    have hle := zIB_ hk long.toNat
    have hn2 : nE k long.toNat ≤ k * nE k long.toNat := Nat.le_mul_of_pos_left _ hk
    have hjp : zEd_ k m ps long = (cutA k (ps.foldl (zwb_ k) []) long, 0) := by
     unfold zEd_
     rw [eU, if_neg (by simp), if_neg c2]
    rw [hjp]
    generalize hqs : ps.foldl (zwb_ k) [] = qs at *
    refine Gx.Wp.jn fun j2 hj2 => ?_
    unfold zcj_
    obtain ⟨bot1, e1⟩ := zp_ (fun _ _ _ _ _ _ _ => none) (zdc_ k0 D j2) (show qs.length + 1 ≤ k0 by rw [g.len]; omega)
    rw [e1]
    refine zMG_ D j2 bot1 (A1.row zHb_) (by rw [g.len]; omega) _ long ?_ qs.length 0 h1 _ _ (by omega) (Chg.refl _ _) (Acc.nil _ _ _ _) (Acc.nil _ _ _ _) (fun a b ha _ => by cases ha)
    intro rs ds h2 k2 A2 B2
    subst hj2
    have p2 := p1.keeps k2
    refine Gx.Wp.bnd rfl ?_
    have q1 : ldA 3 (⟨pb, 0 + 2, none⟩ : Addr) h2 = some (zg_ ((k + m : Nat) : Int) (k : Int) (zk_ B ((k + m) * k) (some 0))) := by
     simp only [ldA, AHeap.rdL, p2.blk]; rfl
    refine Gx.Wp.bnd q1 (Gx.Wp.bnd rfl ?_)
    obtain ⟨full, hE, hok, _⟩ := g.full hk hR
    have hil : (idxs qs).length = k := by simp [idxs, g.len]
    have hN : (k + m) * k ≤ 65025 := Nat.le_trans (Nat.mul_le_mul hR (show k ≤ 255 by omega)) (by decide)
    have hkk : k * k ≤ 65025 := Nat.le_trans (Nat.mul_le_mul (show k ≤ 255 by omega) (show k ≤ 255 by omega)) (by decide)
    have M1 : Mx h2 B ((k + m) * k) (cauN k) := ⟨by rw [← zzx_]; exact p2.mat, p2.lb, zRj_ hk⟩
    obtain ⟨h3, X, r3, O3, k3⟩ := zoC_ hk0 D (r := ((k + m : Nat) : Int)) (c := (k : Int)) (M1.row (sp := some 0)) (by rw [show (matN ((k + m) * k) (cauN k)).length = (k + m) * k from zF_ _ _]; omega) A2.row
    refine Gx.Wp.bnd r3 ?_
    rw [zpy_ (R := k + m) (C := k) (by omega) hR (by omega) (by omega) (zRj_ hk) (by omega) (by omega) hok, hil] at O3
    obtain ⟨⟨xr, xc, xs⟩, xcode⟩ := X
    have o1 : xr = (k : Int) := O3.r
    have o2 : xc = (k : Int) := O3.c
    have oI : InM h3 xs (matN (k * k) (zeb_ k (cauN k) (zI_ (idxs qs)))) := O3.inm
    subst o1 o2
    let h4 := h3.new (.cells [.int .i64 0, .int .i64 0, .slice none 0 0] 97 true 0)
    let h5 := h4.set h3.next (.cells (zg_ (k : Int) (k : Int) xs) 97 true 0)
    have k4 : zb_ h3 h4 := zb_.new _ _
    have k5 : zb_ h3 h5 := zb_.set k4 (Nat.le_refl _)
    have b5 : h5.get h3.next = some (.cells (zg_ (k : Int) (k : Int) xs) 97 true 0) := zJ_ _ _ _
    have st5 : stL 3 (⟨h3.next, 0, none⟩ : Addr) (zg_ (k : Int) (k : Int) xs) h4 = some h5 := zkc_ (h := h4) (b := h3.next) (c := [.int .i64 0, .int .i64 0, .slice none 0 0]) (e := 97) (by simp [h4]) rfl rfl rfl (by decide)
    refine Gx.Wp.bnd st5 (Gx.Wp.bnd (zpc_ b5 rfl) (Gx.Wp.bnd rfl ?_))
    obtain ⟨h6, Y, r6, O6, k6⟩ := zjw_ hk0 D (h := h5) (r := (k : Int)) (c := (k : Int)) (oI.row.keeps k5) (by rw [show (matN (k * k) (zeb_ k (cauN k) (zI_ (idxs qs)))).length = k * k from zF_ _ _]; omega)
    refine Gx.Wp.bnd r6 ?_
    rw [ziA_ (by omega) (by omega) hE, if_pos full] at O6
    obtain ⟨⟨yr, yc, ys⟩, ycode⟩ := Y
    have u1 : yr = (k : Int) := O6.r
    have u2 : yc = (k : Int) := O6.c
    have uI : InM h6 ys (matN (k * k) (invR k qs)) := O6.inm
    have uoff : ∀ a, ys.a = some a → h5.next ≤ a.block := O6.off
    subst u1 u2
    have hEI : El (k * k) (invR k qs) := zFu_ hk hE
    obtain ⟨B6, sp, hys, hsp, M6⟩ := uI.mx (by have := Nat.mul_pos hk hk; omega) hEI
    have uB6 : h5.next ≤ B6 := uoff ⟨B6, 0, sp⟩ (by rw [hys]; rfl)
    subst hys
    have n5 : h5.next = h3.next + 1 := rfl
    have b6 : h6.get h3.next = some (.cells (zg_ (k : Int) (k : Int) xs) 97 true 0) := (k6.oth _ (by omega) fun f => f).trans b5
    let h7 := h6.set h3.next (.cells (zg_ (k : Int) (k : Int) (zk_ B6 (k * k) sp)) 97 true 0)
    have st7 : stL 3 (⟨h3.next, 0, none⟩ : Addr) (zg_ (k : Int) (k : Int) (zk_ B6 (k * k) sp)) h6 = some h7 := zkc_ b6 rfl rfl rfl (by decide)
    refine Gx.Wp.bnd st7 ?_
    have b7 : h7.get h3.next = some (.cells (zg_ (k : Int) (k : Int) (zk_ B6 (k * k) sp)) 97 true 0) := zJ_ _ _ _
    have c7 : Chg (· = h3.next) h6 h7 := Chg.set (.inr rfl)
    have K3 : zb_ h h3 := k1.trans (k2.trans k3)
    have K7 : zb_ h3 h7 := Chg.beh (k5.trans k6) c7 fun x hx e => by have e : x = h3.next := e; omega
    have p7 : PR h7 pb B k m := (p2.keeps k3).keeps K7
    have d7 : h7.get B6 = some (outB encI 3 (matN (k * k) (invR k qs))) := (c7.oth _ M6.lt fun e => by have e : B6 = h3.next := e; omega).trans M6.blk
    have m6 := k6.nx
    refine Gx.Wp.jn fun j3 hj3 => ?_
    unfold zPi_
    obtain ⟨bot0, e0⟩ := zp_ (fun _ _ _ _ _ _ _ => none) (zgc_ k0 D j3) (show k + 1 ≤ k0 by omega)
    rw [e0]
    refine zWG_ (by omega) D j3 bot0 p7 hk (by omega) hsp g.len g.sz (by omega) (fun i hi => zyi_ hk hR g hi) b7 (by show h3.next < h6.next; omega) d7 M6.lt ((B2.row.keeps k3).keeps K7) long ?_ k 0 h7 _ (by omega) (Chg.refl _ _) rfl
    intro h8 k8
    subst hj3
    exact Gx.Wp.bnd (zzG_ hk hR hl g) (Gx.Wp.of ⟨rfl, K3.trans (K7.trans k8)⟩)
 ·refine Gx.Wp.ifp (by simpa using ce) (Gx.Wp.of ⟨?_, Chg.refl _ _⟩)
  have eU : unlA k m ps long = ([], (zUd_ k long).2) := by unfold unlA; rw [if_pos (by simpa using ce)]
  unfold zEd_
  rw [eU, if_pos (by simpa using ce)]
end Gz
namespace Gz
open Go Gx Go.Proofs
def zkn_ (x y : Sh) : Bool := (x.1 == y.1) && (x.2.1 == y.2.1) && (x.2.2.2.1 == y.2.2.2.1) && (x.2.2.2.2.1 == y.2.2.2.2.1)
theorem zK_ (x : Sh) : (shC x).length = 6 := rfl
theorem zcv_ (k0 : Nat) (D : za_) (x y : Sh) (h : AHeap) : ∃ h', zdg_ k0 D x y h = some (zkn_ x y, h') ∧ zb_ h h' := by
 simp only [zdg_]
 let h1 := h.new (.cells (shC x) 33 true 0)
 let h2 := h1.new (.cells (shC y) 33 true 0)
 have n1 : h1.next = h.next + 1 := rfl
 have k2 : zb_ h h2 := (zb_.new h _).trans (zb_.new h1 _)
 have g1 : h2.get h.next = some (.cells (shC x) 33 true 0) := ((zb_.new h1 _).oth _ (by omega) (fun f => f)).trans (by simp [h1])
 have g2 : h2.get h1.next = some (.cells (shC y) 33 true 0) := by simp [h2]
 have s1 : st1 ⟨h.next, 2, none⟩ (.int .i64 y.2.2.1) h2 = some (h2.set h.next (.cells ((shC x).set 2 (.int .i64 y.2.2.1)) 33 true 0)) := zOb_ g1 (by rw [zK_]; decide) rfl
 obtain ⟨h3, e3⟩ : ∃ h3, h3 = h2.set h.next (.cells ((shC x).set 2 (.int .i64 y.2.2.1)) 33 true 0) := ⟨_, rfl⟩
 have g3 : h3.get h1.next = some (.cells (shC y) 33 true 0) := by rw [e3, AHeap.get_set, if_neg (by omega)]; exact g2
 have g3x : h3.get h.next = some (.cells ((shC x).set 2 (.int .i64 y.2.2.1)) 33 true 0) := by rw [e3]; exact zJ_ _ _ _
 have s2 : st1 ⟨h.next, 5, none⟩ (.string y.2.2.2.2.2) h3 = some (h3.set h.next (.cells (((shC x).set 2 (.int .i64 y.2.2.1)).set 5 (.string y.2.2.2.2.2)) 33 true 0)) := zOb_ g3x (by simp [shC]) rfl
 obtain ⟨h4, e4⟩ : ∃ h4, h4 = h3.set h.next (.cells (((shC x).set 2 (.int .i64 y.2.2.1)).set 5 (.string y.2.2.2.2.2)) 33 true 0) := ⟨_, rfl⟩
 have g4 : h4.get h1.next = some (.cells (shC y) 33 true 0) := by rw [e4, AHeap.get_set, if_neg (by omega)]; exact g3
 have g4x : h4.get h.next = some (.cells (shC (x.1, x.2.1, y.2.2.1, x.2.2.2.1, x.2.2.2.2.1, y.2.2.2.2.2)) 33 true 0) := by rw [e4]; exact zJ_ _ _ _
 refine ⟨h4, ?_, ?_⟩
 ·refine bnd (zqb_ g2 (show (shC y)[2]? = some (.int .i64 y.2.2.1) from rfl)) (bnd s1 ?_)
  rw [← e3]
  refine bnd (zpd_ g3 (show (shC y)[5]? = some (.string y.2.2.2.2.2) from rfl)) (gp (ssw1 (by show (ldS ⟨h1.next, 5, none⟩ h2).bind _ = _; rw [zpd_ g2 (show (shC y)[5]? = some (.string y.2.2.2.2.2) from rfl)]; rfl)) (bnd s2 ?_))
  rw [← e4]
  refine bnd (zpc_ g4x rfl) (bnd rfl (bnd (zpc_ g4 rfl) (bnd rfl ?_)))
  congr 2
  simp only [zkn_, zHi_, beq_self_eq_true, decide_true, Bool.true_and, Bool.and_true]
  simp [Bool.and_assoc]
 ·rw [e4]
  refine zb_.set ?_ (Nat.le_refl _)
  rw [e3]
  exact zb_.set k2 (Nat.le_refl _)
def zOc_ (x : Sh) : Prt := (x.2.2.1, x.2.2.2.2.2)
def okB (l0 x : Sh) : Bool := decide (chkA x = 0) && zkn_ l0 x
def zue_ (l0 : Sh) (xs : List Sh) : ByteArray × Int := zEd_ l0.1.toNat l0.2.1.toNat (xs.map zOc_) l0.2.2.2.1
def zuf_ (xs : List Sh) : ByteArray × Int :=
 match xs with
 | [] => (⟨#[]⟩, 4)
 | l0 :: _ => if xs.all (okB l0) = true then (if (zue_ l0 xs).2 ≠ 0 then (⟨#[]⟩, (zue_ l0 xs).2) else if digB (zue_ l0 xs).1 = l0.2.2.2.2.1 then ((zue_ l0 xs).1, 0) else (⟨#[]⟩, 60)) else (⟨#[]⟩, 4)
theorem zjH_ {k0 : Nat} (D : za_) (j) (bot) {Q : (ByteArray × Int) × AHeap → Prop} {h0 : AHeap} {y : Slc} {l0 : Sh} {xs : List Sh} (R : RowW 6 shC h0 y xs) (hx : xs.length ≤ 1000) (h00 : xs[0]? = some l0)
  (bad : ∀ h, zb_ h0 h → xs.all (okB l0) = false → Q ((⟨#[]⟩, 4), h))
  (hj : ∀ h o, zb_ h0 h → xs.all (okB l0) = true → Acc2 h0.next h o (xs.map zOc_) → Gx.Wp (j y o h) Q) :
  ∀ (d i : Nat) (o : Slc) (h : AHeap), i + d = xs.length → zb_ h0 h → (xs.take i).all (okB l0) = true → Acc2 h0.next h o ((xs.take i).map zOc_) →
   Gx.Wp (zh_ bot (d + 1) (zxd_ k0 D j) y o y (xs.length : Int) (i : Int) h) Q := fun d => by
 induction d with
 | zero =>
  intro i o h hi kp hall A
  rw [ze_]; simp only [zxd_]
  obtain rfl : i = xs.length := by omega
  rw [List.take_length] at hall A
  exact Gx.Wp.ifn (by simp) (hj h o kp hall A)
 | succ d ih =>
  intro i o h hi kp hall A
  rw [ze_]; simp only [zxd_]
  refine Gx.Wp.ifp (by simp; omega) ?_
  obtain ⟨x, hxi⟩ := zy_ (l := xs) (i := i) (by omega)
  obtain ⟨q, i1, i2, _, _⟩ := (R.keeps kp).ld zK_ (by decide) hxi
  refine Gx.Wp.bnd i1 (Gx.Wp.bnd i2 (Gx.Wp.bnd (zRc_ x) ?_))
  let h1 := h.new (.cells (shC zSh) 33 true 0)
  have g1 : h1.get h.next = some (.cells (shC zSh) 33 true 0) := by simp [h1]
  have s1 := zkc_ (sp := none) (cs := shC x) g1 rfl rfl (zqq_ _) (by decide)
  refine Gx.Wp.bnd s1 ?_
  obtain ⟨h2, e2⟩ : ∃ h2, h2 = h1.set h.next (.cells (shC x) 33 true 0) := ⟨_, rfl⟩
  rw [← e2]
  have k2 : zb_ h h2 := by rw [e2]; exact zb_.set (zb_.new h _) (Nat.le_refl _)
  have g2 : h2.get h.next = some (.cells (shC x) 33 true 0) := by rw [e2]; exact zJ_ _ _ _
  have l2 : h.next < h2.next := by rw [e2]; show h.next < h.next + 1; omega
  have allF : okB l0 x = false → xs.all (okB l0) = false := fun hf => by
   cases ha : xs.all (okB l0) with
   | false => rfl
   | true =>
    rw [List.all_eq_true] at ha
    rw [ha x (zOl_ hxi)] at hf
    exact hf
  refine Gx.Wp.jn fun j2 hj2 => ?_
  have badR : ∀ {g : AHeap}, zb_ h0 g → okB l0 x = false → Gx.Wp (j2 y o (some ⟨h.next, 0, none⟩) y (xs.length : Int) (i : Int) true g) Q := fun kg hf => by
   subst hj2
   exact Gx.Wp.ifp rfl (Gx.Wp.of (bad _ kg (allF hf)))
  refine Gx.Wp.bnd (zpc_ g2 rfl) (Gx.Wp.bnd (zRc_ x) (Gx.Wp.bnd (zqC_ k0 D x h2) ?_))
  have k3 : zb_ h2 (h2.new (.cells (shC x) 33 true 0)) := zb_.new h2 _
  by_cases c : chkA x = 0
  ·refine Gx.Wp.ifn (by simpa using c) ?_
   obtain ⟨q0, i3, i4, _, _⟩ := ((R.keeps kp).keeps (k2.trans k3)).ld zK_ (by decide) h00
   have g3 : (h2.new (.cells (shC x) 33 true 0)).get h.next = some (.cells (shC x) 33 true 0) := (k3.oth _ l2 (fun f => f)).trans g2
   obtain ⟨h4, e4, k4⟩ := zcv_ k0 D l0 x (h2.new (.cells (shC x) 33 true 0))
   refine Gx.Wp.bnd i3 (Gx.Wp.bnd i4 (Gx.Wp.bnd (zRc_ l0) (Gx.Wp.bnd (zpc_ g3 rfl) (Gx.Wp.bnd (zRc_ x) (Gx.Wp.bnd e4 ?_)))))
   have K4 : zb_ h h4 := k2.trans (k3.trans k4)
   have g4 : h4.get h.next = some (.cells (shC x) 33 true 0) := (k4.oth _ (Nat.lt_of_lt_of_le l2 k3.nx) (fun f => f)).trans g3
   cases hf : zkn_ l0 x with
   | false => exact badR (kp.trans K4) (by unfold okB; rw [hf, Bool.and_false])
   | true =>
    subst hj2
    refine Gx.Wp.ifn (by simp) ?_
    refine Gx.Wp.bnd rfl (Gx.Wp.bnd (zqb_ g4 (show (shC x)[2]? = some (.int .i64 x.2.2.1) from rfl)) (Gx.Wp.bnd rfl (Gx.Wp.bnd (zpd_ g4 (show (shC x)[5]? = some (.string x.2.2.2.2.2) from rfl)) ?_)))
    refine Gx.Wp.bnd (zJA_ (x := zOc_ x)) ?_
    have A4 := A.keeps K4
    have k5 : zb_ h4 (h4.new (.cells (enc2 (zOc_ x)) 61 true 0)) := zb_.new h4 _
    obtain ⟨o2, h6, a1, A6, c6⟩ := (A4.keeps k5).push (zOc_ x) (by rw [List.length_map, List.length_take]; omega) (Nat.le_trans (kp.trans K4).nx k5.nx)
    refine Gx.Wp.bnd a1 ?_
    rw [Gx.w1 (by omega)]
    refine ih (i + 1) o2 h6 (by omega) (zgE_ (kp.trans (K4.trans k5)) (A4.keeps k5) c6) ?_ ?_
    ·rw [List.take_add_one, hxi, List.all_append, hall]
     simp [okB, c, hf]
    ·rw [List.take_add_one, hxi, List.map_append]; exact A6
  ·refine Gx.Wp.ifp (by simpa using c) ?_
   exact badR (kp.trans (k2.trans k3)) (by unfold okB; rw [decide_eq_false c]; rfl)
theorem zGs_ {k m : Nat} (hk : 0 < k) (hR : k + m ≤ 255) {ps : List Prt} {long : Int} (h : (zEd_ k m ps long).2 = 0) : (zEd_ k m ps long).1.size = long.toNat ∧ 0 ≤ long ∧ long ≤ 65536 := by
 unfold zEd_ at h ⊢
 split at h
 ·rename_i c; exact absurd h c
 ·rename_i c
  split at h
  ·cases h
  ·rename_i c2
   rw [if_neg c, if_neg c2]
   obtain ⟨hl, g⟩ := zgp_ hk (by simpa using c) c2
   refine ⟨?_, hl⟩
   unfold cutA
   have pl : (zO_ k (unlA k m ps long).1).length = k := by simp [zO_]
   have fl : (zHd_ (zO_ k (unlA k m ps long).1)).length = k * nE k long.toNat := by
    have := zfj_ (n := nE k long.toNat) (zO_ k (unlA k m ps long).1) (fun x hx => by
     obtain ⟨i, hi, rfl⟩ := List.mem_map.1 hx
     exact zyi_ hk hR g (List.mem_range.1 hi))
    rw [pl] at this; exact this
   rw [znc_, List.length_take, fl, Nat.min_eq_left (zuB_ hk _)]
theorem zDz_ {k0 : Nat} (hk0 : 200000 ≤ k0) {h : AHeap} (kg : KG 0 h) {y : Slc} {xs : List Sh} (R : RowW 6 shC h y xs) (hx : xs.length ≤ 1000) :
  Gx.Wp (zGf_ k0 (DD k0) y h) fun q => q.1 = zuf_ xs ∧ zb_ h q.2 := by
 simp only [zGf_]
 have hl := R.len
 cases xs with
 | nil =>
  exact Gx.Wp.ifp (by rw [hl]; rfl) (Gx.Wp.of ⟨rfl, Chg.refl _ _⟩)
 | cons l0 xs =>
  refine Gx.Wp.ifn (by rw [hl]; simp; omega) ?_
  refine Gx.Wp.jn fun j hj => ?_
  unfold zVk_
  obtain ⟨bot, eb⟩ := zp_ (fun _ _ _ _ _ _ => none) (zxd_ k0 (DD k0) j) (show (l0 :: xs).length + 1 ≤ k0 by omega)
  rw [eb, hl]
  refine zjH_ (DD k0) j bot (Q := fun q => q.1 = zuf_ (l0 :: xs) ∧ zb_ h q.2) (l0 := l0) R hx rfl (fun g kp hf => ⟨by unfold zuf_; simp only [hf]; rfl, kp⟩) ?_ (l0 :: xs).length 0 ⟨none, 0, 0⟩ h (by omega) (Chg.refl _ _) rfl (Acc2.nil _ _)
  ·intro g o kp hall A
   subst hj
   dsimp only
   have hok0 : okB l0 l0 = true := List.all_eq_true.1 hall l0 (List.mem_cons_self ..)
   have hc0 : chkA l0 = 0 := by
    unfold okB at hok0
    simp only [Bool.and_eq_true, decide_eq_true_eq] at hok0
    exact hok0.1
   obtain ⟨c1, c2, _, c4, c5, _⟩ := zdv_ hc0
   obtain ⟨k, hk⟩ : ∃ k : Nat, l0.1 = (k : Int) := ⟨l0.1.toNat, by omega⟩
   obtain ⟨m, hm⟩ : ∃ m : Nat, l0.2.1 = (m : Int) := ⟨l0.2.1.toNat, by omega⟩
   have hR : k + m ≤ 255 := by omega
   have hk0' : 0 < k := by omega
   obtain ⟨q0, i1, i2, i3, i4⟩ := (R.keeps kp).ld zK_ (by decide) (show (l0 :: xs)[0]? = some l0 from rfl)
   refine Gx.Wp.bnd i1 (Gx.Wp.bnd (i3 0 .i64 l0.1 rfl) (Gx.Wp.bnd i1 (Gx.Wp.bnd (i3 1 .i64 l0.2.1 rfl) ?_)))
   rw [hk, hm]
   obtain ⟨h1, pb, f2, B, sb, fb, r1, p1, k1, a1, a2, a3, a4, a5⟩ := zGC_ (k0 := k0) (by omega) g hk0' hR
   refine Gx.Wp.bnd r1 (Gx.Wp.ifn (by simp) ?_)
   obtain ⟨q1, u1, u2, u3, u4⟩ := (R.keeps (kp.trans k1)).ld zK_ (by decide) (show (l0 :: xs)[0]? = some l0 from rfl)
   refine Gx.Wp.bnd u1 (Gx.Wp.bnd (u3 3 .i64 l0.2.2.2.1 rfl) ?_)
   obtain ⟨h2, r2, p2, c2'⟩ := zvB_ hk0 p1 hk0' hR (A.keeps k1).row (by rw [List.length_map]; omega) l0.2.2.2.1
   have k2 : zb_ g h2 := Chg.beh k1 c2' fun x hx e => by rcases e with e | e <;> omega
   refine Gx.Wp.bnd r2 ?_
   have ej : zue_ l0 (l0 :: xs) = zEd_ k m ((l0 :: xs).map zOc_) l0.2.2.2.1 := by unfold zue_; rw [hk, hm]; rfl
   have gp1 : ∀ v, (if (zue_ l0 (l0 :: xs)).2 ≠ 0 then (⟨#[]⟩, (zue_ l0 (l0 :: xs)).2) else if digB (zue_ l0 (l0 :: xs)).1 = l0.2.2.2.2.1 then ((zue_ l0 (l0 :: xs)).1, 0) else (⟨#[]⟩, 60)) = v → zuf_ (l0 :: xs) = v := fun v hv => by
    unfold zuf_
    simp only [hall, if_true]
    exact hv
   by_cases cj : (zEd_ k m ((l0 :: xs).map zOc_) l0.2.2.2.1).2 = 0
   ·refine Gx.Wp.ifn (by simpa using cj) ?_
    obtain ⟨sz, _, sz3⟩ := zGs_ hk0' hR cj
    obtain ⟨sv, hsv⟩ : ∃ sv, sv = (zEd_ k m ((l0 :: xs).map zOc_) l0.2.2.2.1).1 := ⟨_, rfl⟩
    rw [← hsv] at sz
    simp only
    rw [← hsv]
    have k3 : zb_ h2 (h2.new (.cells [.string sv] 9 true 0)) := zb_.new h2 _
    have R3 : Row encS (h2.new (.cells [.string sv] 9 true 0)) (⟨some ⟨h2.next, 0, some 0⟩, 1, 1⟩ : Slc) [sv] :=
     Row.of_block (enc := encS) (xs := [sv]) (b := h2.next) (o := 0) (c := [.string sv]) (e := 9) (r := true) (fz := 0) (by simp) (by simp) fun i x hx => by
      match i with
      | 0 => cases hx; rfl
      | i + 1 => simp at hx
    have cl : catL [sv] = bl sv := by simp [catL]
    refine Gx.Wp.call (zLE_ (k0 := k0) (by omega) (DD k0) (kg.chg (kp.trans (k2.trans k3)) fun f => f) R3 (by rw [cl, zv_]; omega) (by rw [cl, zv_]; omega) (by simp; omega) (by simp)) fun q ⟨z1, z2⟩ => ?_
    rw [cl] at z1
    obtain ⟨dg, h4⟩ := q
    simp only at z1 z2 ⊢
    subst z1
    have RR : ∀ {g' : AHeap}, zb_ h g' → ∃ q, idxL 6 y (0 : Int) = some q ∧ ldS ⟨q.block, q.off + 4, none⟩ g' = some l0.2.2.2.2.1 := fun kk => by
     obtain ⟨q, v1, _, _, v4⟩ := (R.keeps kk).ld zK_ (by decide) (show (l0 :: xs)[0]? = some l0 from rfl)
     exact ⟨q, v1, v4 4 _ rfl⟩
    obtain ⟨q4, v1, v2⟩ := RR (kp.trans (k2.trans (k3.trans z2)))
    obtain ⟨q4', v1', v2'⟩ := RR (kp.trans (k2.trans k3))
    obtain ⟨q4'', v1'', v2''⟩ := RR (kp.trans k2)
    rw [v1] at v1' v1''
    cases v1'; cases v1''
    refine Gx.Wp.bnd v1 (Gx.Wp.bnd v2 (Gx.Wp.gp (sw2 (by rw [v2']; rfl) (by rw [v2'']; rfl)) ?_))
    have hdig : (⟨⟨zns_ (bl sv)⟩⟩ : ByteArray) = digB sv := rfl
    rw [hdig]
    have fin : zb_ h h4 := kp.trans (k2.trans (k3.trans z2))
    by_cases cd : digB sv = l0.2.2.2.2.1
    ·refine Gx.Wp.ifn (by simp [zHi_, cd]) (Gx.Wp.of ⟨?_, fin⟩)
     symm
     apply gp1
     rw [ej, if_neg (by simpa using cj), ← hsv, if_pos cd]
    ·refine Gx.Wp.ifp (by simp [zHi_, cd]) (Gx.Wp.of ⟨?_, fin⟩)
     symm
     apply gp1
     rw [ej, if_neg (by simpa using cj), ← hsv, if_neg cd]
   ·refine Gx.Wp.ifp (by simpa using cj) (Gx.Wp.of ⟨?_, kp.trans k2⟩)
    symm
    apply gp1
    rw [ej, if_pos (by simpa using cj)]
end Gz
namespace Gz
open Go Gx Go.Proofs
theorem zYs_ (k0 : Nat) (D : za_) (x y : Sh) (h : AHeap) : ∃ h', zmg_ k0 D x y h = some (zkn_ x y, h') ∧ zb_ h h' := by
 simp only [zmg_]
 let h1 := h.new (.cells (shC x) 34 true 0)
 let h2 := h1.new (.cells (shC y) 34 true 0)
 have k1 : zb_ h h1 := zb_.new h _
 have k2 : zb_ h h2 := k1.trans (zb_.new h1 _)
 have g2 : h2.get h1.next = some (.cells (shC y) 34 true 0) := by simp [h2]
 have g1 : h2.get h.next = some (.cells (shC x) 34 true 0) := by
  have : h2.get h.next = h1.get h.next := (zb_.new h1 (.cells (shC y) 34 true 0)).oth _ (by simp [h1]) (fun f => f)
  rw [this]; simp [h1]
 have ix : ∀ (j : Nat) (n : Int), (shC x)[j]? = some (.int .i64 n) → ldI .i64 ⟨h.next, j, none⟩ h2 = some n := fun j n e => zqb_ g1 e
 have iy : ∀ (j : Nat) (n : Int), (shC y)[j]? = some (.int .i64 n) → ldI .i64 ⟨h1.next, j, none⟩ h2 = some n := fun j n e => zqb_ g2 e
 refine ⟨h2, ?_, k2⟩
 refine bnd (ix 0 _ rfl) (bnd (iy 0 _ rfl) ?_)
 unfold zkn_
 by_cases c1 : x.1 = y.1
 ·refine ifp (by simpa using c1) (bnd (ix 1 _ rfl) (bnd (iy 1 _ rfl) ?_))
  by_cases c2 : x.2.1 = y.2.1
  ·refine ifp (by simpa using c2) (bnd (ix 3 _ rfl) (bnd (iy 3 _ rfl) ?_))
   by_cases c3 : x.2.2.2.1 = y.2.2.2.1
   ·refine ifp (by simpa using c3) (bnd (zpd_ g1 (show (shC x)[4]? = some (.string x.2.2.2.2.1) from rfl)) (bnd (zpd_ g2 (show (shC y)[4]? = some (.string y.2.2.2.2.1) from rfl)) ?_))
    exact congrArg (fun b => some (b, h2)) (by simp [c1, c2, c3])
   ·exact ifn (by simpa using c3) (congrArg (fun b => some (b, h2)) (by simp [c3]))
  ·exact ifn (by simpa using c2) (congrArg (fun b => some (b, h2)) (by simp [c2]))
 ·exact ifn (by simpa using c1) (congrArg (fun b => some (b, h2)) (by simp [c1]))
theorem zYG_ {k0 : Nat} (D : za_) (j) (bot) {Q : (ByteArray × Int) × AHeap → Prop} {h0 : AHeap} {y : Slc} {l0 : Sh} {xs : List Sh} (R : RowW 6 shC h0 y xs) (hx : xs.length ≤ 1000) (h00 : xs[0]? = some l0)
  (bad : ∀ h, zb_ h0 h → xs.all (okB l0) = false → Q ((⟨#[]⟩, 4), h))
  (hj : ∀ h o, zb_ h0 h → xs.all (okB l0) = true → AccW 2 enc2 65 h0.next h o (xs.map zOc_) → Gx.Wp (j y o h) Q) :
  ∀ (d i : Nat) (o : Slc) (h : AHeap), i + d = xs.length → zb_ h0 h → (xs.take i).all (okB l0) = true → AccW 2 enc2 65 h0.next h o ((xs.take i).map zOc_) →
   Gx.Wp (zh_ bot (d + 1) (zCd_ k0 D j) y o (i : Int) h) Q := fun d => by
 induction d with
 | zero =>
  intro i o h hi kp hall A
  rw [ze_]; simp only [zCd_]
  obtain rfl : i = xs.length := by omega
  rw [List.take_length] at hall A
  exact Gx.Wp.ifn (by rw [R.len]; simp) (hj h o kp hall A)
 | succ d ih =>
  intro i o h hi kp hall A
  rw [ze_]; simp only [zCd_]
  refine Gx.Wp.ifp (by rw [R.len]; simp; omega) ?_
  obtain ⟨x, hxi⟩ := zy_ (l := xs) (i := i) (by omega)
  have ldx : ∀ {g : AHeap}, zb_ h0 g → ∃ q, idxL 6 y (i : Int) = some q ∧ ldA 6 q g = some (shC x) ∧ ldI .i64 ⟨q.block, q.off + 2, none⟩ g = some x.2.2.1 ∧ ldS ⟨q.block, q.off + 5, none⟩ g = some x.2.2.2.2.2 := fun kg => by
   obtain ⟨q, i1, i2, i3, i4⟩ := (R.keeps kg).ld zK_ (by decide) hxi
   exact ⟨q, i1, i2, i3 2 _ _ rfl, i4 5 _ rfl⟩
  have ld0 : ∀ {g : AHeap}, zb_ h0 g → ∃ q, idxL 6 y (0 : Int) = some q ∧ ldA 6 q g = some (shC l0) := fun kg => by
   obtain ⟨q, i1, i2, _, _⟩ := (R.keeps kg).ld zK_ (by decide) h00
   exact ⟨q, i1, i2⟩
  have allF : okB l0 x = false → xs.all (okB l0) = false := fun hf => by
   cases ha : xs.all (okB l0) with
   | false => rfl
   | true =>
    rw [List.all_eq_true] at ha
    rw [ha x (zOl_ hxi)] at hf
    exact hf
  refine Gx.Wp.jn fun j2 hj2 => ?_
  obtain ⟨q, i1, i2, _, _⟩ := ldx kp
  refine Gx.Wp.bnd i1 (Gx.Wp.bnd i2 (Gx.Wp.bnd (zRc_ x) (Gx.Wp.bnd (zsz_ k0 D x h) ?_)))
  have k3 : zb_ h (h.new (.cells (shC x) 34 true 0)) := zb_.new h _
  have badR : ∀ {g : AHeap}, zb_ h0 g → okB l0 x = false → Gx.Wp (j2 y o (i : Int) true g) Q := fun kg hf => by
   subst hj2
   exact Gx.Wp.ifp rfl (Gx.Wp.of (bad _ kg (allF hf)))
  by_cases c : chkA x = 0
  ·refine Gx.Wp.ifn (by simpa using c) ?_
   obtain ⟨q0, i3, i4⟩ := ld0 (kp.trans k3)
   obtain ⟨q1, i5, i6, _, _⟩ := ldx (kp.trans k3)
   obtain ⟨h4, e4, k4⟩ := zYs_ k0 D l0 x (h.new (.cells (shC x) 34 true 0))
   refine Gx.Wp.bnd i3 (Gx.Wp.bnd i4 (Gx.Wp.bnd (zRc_ l0) (Gx.Wp.bnd i5 (Gx.Wp.bnd i6 (Gx.Wp.bnd (zRc_ x) (Gx.Wp.bnd e4 ?_))))))
   have K4 : zb_ h h4 := k3.trans k4
   cases hf : zkn_ l0 x with
   | false => exact badR (kp.trans K4) (by unfold okB; rw [hf, Bool.and_false])
   | true =>
    subst hj2
    refine Gx.Wp.ifn (by simp) ?_
    obtain ⟨q2, i7, _, i8, i9⟩ := ldx (kp.trans K4)
    refine Gx.Wp.bnd i7 (Gx.Wp.bnd i8 (Gx.Wp.bnd i7 (Gx.Wp.bnd i9 ?_)))
    refine Gx.Wp.bnd (zJn_ zHb_ (zOc_ x) 65) ?_
    have A4 := A.keeps K4
    obtain ⟨o2, h6, a1, A6, c6, _⟩ := A4.push zHb_ zUw_ (zOc_ x) (bytes := 24) (by decide) (by rw [List.length_map, List.length_take]; omega) (kp.trans K4).nx
    refine Gx.Wp.bnd a1 ?_
    rw [Gx.w1 (by omega)]
    refine ih (i + 1) o2 h6 (by omega) (Chg.beh (kp.trans K4) c6 fun y hy ⟨a, ha, e⟩ => by have := (A4.lt a ha).2; omega) ?_ ?_
    ·rw [List.take_add_one, hxi, List.all_append, hall]
     simp [okB, c, hf]
    ·rw [List.take_add_one, hxi, List.map_append]; exact A6
  ·refine Gx.Wp.ifp (by simpa using c) ?_
   exact badR (kp.trans k3) (by unfold okB; rw [decide_eq_false c]; rfl)
theorem zxx_ {k0 : Nat} (hk0 : 200000 ≤ k0) (D : za_) {h : AHeap} {y : Slc} {xs : List Sh} (R : RowW 6 shC h y xs) (hx : xs.length ≤ 1000) :
  Gx.Wp (zCf_ k0 D y h) fun q => q.1 = zuf_ xs ∧ zb_ h q.2 := by
 simp only [zCf_]
 have hl := R.len
 cases xs with
 | nil =>
  exact Gx.Wp.ifp (by rw [hl]; rfl) (Gx.Wp.of ⟨rfl, Chg.refl _ _⟩)
 | cons l0 xs =>
  refine Gx.Wp.ifn (by rw [hl]; simp; omega) ?_
  refine Gx.Wp.jn fun j hj => ?_
  unfold zml_
  obtain ⟨bot, eb⟩ := zp_ (fun _ _ _ _ => none) (zCd_ k0 D j) (show (l0 :: xs).length + 1 ≤ k0 by omega)
  rw [eb]
  refine zYG_ D j bot (Q := fun q => q.1 = zuf_ (l0 :: xs) ∧ zb_ h q.2) (l0 := l0) R hx rfl (fun g kp hf => ⟨by unfold zuf_; simp only [hf]; rfl, kp⟩) ?_ (l0 :: xs).length 0 ⟨none, 0, 0⟩ h (by omega) (Chg.refl _ _) rfl (AccW.nil _ _ _ _ _)
  ·intro g o kp hall A
   subst hj
   dsimp only
   have hok0 : okB l0 l0 = true := List.all_eq_true.1 hall l0 (List.mem_cons_self ..)
   have hc0 : chkA l0 = 0 := by
    unfold okB at hok0
    simp only [Bool.and_eq_true, decide_eq_true_eq] at hok0
    exact hok0.1
   obtain ⟨c1, c2, _, c4, c5, _⟩ := zdv_ hc0
   obtain ⟨k, hk⟩ : ∃ k : Nat, l0.1 = (k : Int) := ⟨l0.1.toNat, by omega⟩
   obtain ⟨m, hm⟩ : ∃ m : Nat, l0.2.1 = (m : Int) := ⟨l0.2.1.toNat, by omega⟩
   have hR : k + m ≤ 255 := by omega
   have hk0' : 0 < k := by omega
   obtain ⟨q0, i1, i2, i3, i4⟩ := (R.keeps kp).ld zK_ (by decide) (show (l0 :: xs)[0]? = some l0 from rfl)
   refine Gx.Wp.bnd i1 (Gx.Wp.bnd (i3 0 .i64 l0.1 rfl) (Gx.Wp.bnd i1 (Gx.Wp.bnd (i3 1 .i64 l0.2.1 rfl) ?_)))
   rw [hk, hm]
   obtain ⟨h1, pb, B, r1, p1, k1, _, _⟩ := zcC_ (k0 := k0) (by omega) D g hk0' hR
   refine Gx.Wp.bnd r1 ?_
   obtain ⟨q1, u1, u2, u3, u4⟩ := (R.keeps (kp.trans k1)).ld zK_ (by decide) (show (l0 :: xs)[0]? = some l0 from rfl)
   refine Gx.Wp.bnd u1 (Gx.Wp.bnd (u3 3 .i64 l0.2.2.2.1 rfl) ?_)
   refine Gx.Wp.call (zTB_ hk0 D p1 hk0' hR ((A.keeps k1).row zHb_) (by rw [List.length_map]; omega) l0.2.2.2.1) fun q ⟨z1, z2⟩ => ?_
   obtain ⟨jv, h2⟩ := q
   simp only at z1 z2 ⊢
   subst z1
   have k2 : zb_ g h2 := k1.trans z2
   have ej : zue_ l0 (l0 :: xs) = zEd_ k m ((l0 :: xs).map zOc_) l0.2.2.2.1 := by unfold zue_; rw [hk, hm]; rfl
   have gp1 : ∀ v, (if (zue_ l0 (l0 :: xs)).2 ≠ 0 then (⟨#[]⟩, (zue_ l0 (l0 :: xs)).2) else if digB (zue_ l0 (l0 :: xs)).1 = l0.2.2.2.2.1 then ((zue_ l0 (l0 :: xs)).1, 0) else (⟨#[]⟩, 60)) = v → zuf_ (l0 :: xs) = v := fun v hv => by
    unfold zuf_
    simp only [hall, if_true]
    exact hv
   by_cases cj : (zEd_ k m ((l0 :: xs).map zOc_) l0.2.2.2.1).2 = 0
   ·refine Gx.Wp.ifn (by simpa using cj) ?_
    obtain ⟨sz, _, sz3⟩ := zGs_ hk0' hR cj
    obtain ⟨sv, hsv⟩ : ∃ sv, sv = (zEd_ k m ((l0 :: xs).map zOc_) l0.2.2.2.1).1 := ⟨_, rfl⟩
    rw [← hsv] at sz
    rw [← hsv]
    refine Gx.Wp.call (zQz_ (k0 := k0) (by omega) D sv (by omega) (by omega) h2) fun q ⟨y1, y2⟩ => ?_
    obtain ⟨dg, h4⟩ := q
    simp only at y1 y2 ⊢
    subst y1
    have RR : ∀ {g' : AHeap}, zb_ h g' → ∃ q, idxL 6 y (0 : Int) = some q ∧ ldS ⟨q.block, q.off + 4, none⟩ g' = some l0.2.2.2.2.1 := fun kk => by
     obtain ⟨q, v1, _, _, v4⟩ := (R.keeps kk).ld zK_ (by decide) (show (l0 :: xs)[0]? = some l0 from rfl)
     exact ⟨q, v1, v4 4 _ rfl⟩
    obtain ⟨q4, v1, v2⟩ := RR (kp.trans (k2.trans y2))
    obtain ⟨q4', v1', v2'⟩ := RR (kp.trans k2)
    rw [v1] at v1'
    cases v1'
    refine Gx.Wp.bnd v1 (Gx.Wp.bnd v2 (Gx.Wp.gp (ssw1 (by simp only [v2']; rfl)) ?_))
    have fin : zb_ h h4 := kp.trans (k2.trans y2)
    by_cases cd : digB sv = l0.2.2.2.2.1
    ·refine Gx.Wp.ifn (by simp [zHi_, cd]) (Gx.Wp.of ⟨?_, fin⟩)
     symm
     apply gp1
     rw [ej, if_neg (by simpa using cj), ← hsv, if_pos cd]
    ·refine Gx.Wp.ifp (by simp [zHi_, cd]) (Gx.Wp.of ⟨?_, fin⟩)
     symm
     apply gp1
     rw [ej, if_neg (by simpa using cj), ← hsv, if_neg cd]
   ·refine Gx.Wp.ifp (by simpa using cj) (Gx.Wp.of ⟨?_, kp.trans k2⟩)
    symm
    apply gp1
    rw [ej, if_pos (by simpa using cj)]
abbrev zVx_ (x y : Sh) : Bool := ((x.1 == y.1) && ((x.2.1 == y.2.1) && ((x.2.2.1 == y.2.2.1) && ((x.2.2.2.1 == y.2.2.2.1) && ((x.2.2.2.2.1 == y.2.2.2.2.1) && (x.2.2.2.2.2 == y.2.2.2.2.2))))))
theorem zGz_ (x : Sh) : zVx_ x x = true := by simp [zVx_, zHi_]
theorem zCH_ {k0 : Nat} (D : za_) (j) (bot) {Q : Bool × AHeap → Prop} {h0 : AHeap} {l own kv : Slc} {l0 : Sh} {xs : List Sh} (R : RowW 6 shC h0 l xs) (Ro : RowW 6 shC h0 own xs) (Rk : RowW 6 shC h0 kv xs) (hx : xs.length ≤ 1000) (h00 : xs ≠ [] → xs[0]? = some l0)
  (a : ByteArray) (e : Int) (b : ByteArray) (f : Int) (hj : ∀ h, zb_ h0 h → Gx.Wp (j a e b f h) Q) :
  ∀ (d i : Nat) (h : AHeap), i + d = xs.length → zb_ h0 h → Gx.Wp (zh_ bot (d + 1) (zFb_ k0 D j) l own kv a e b f (i : Int) h) Q := fun d => by
 induction d with
 | zero =>
  intro i h hi kp
  rw [ze_]; simp only [zFb_]
  exact Gx.Wp.ifn (by rw [R.len]; simp; omega) (hj h kp)
 | succ d ih =>
  intro i h hi kp
  rw [ze_]; simp only [zFb_]
  refine Gx.Wp.ifp (by rw [R.len]; simp; omega) ?_
  obtain ⟨x, hxi⟩ := zy_ (l := xs) (i := i) (by omega)
  have h00 := h00 (by intro e; rw [e] at hxi; simp at hxi)
  refine Gx.Wp.jn fun j2 hj2 => ?_
  obtain ⟨q1, a1, a2, _, _⟩ := (Ro.keeps kp).ld zK_ (by decide) hxi
  obtain ⟨q2, b1, b2, _, _⟩ := (R.keeps kp).ld zK_ (by decide) hxi
  obtain ⟨q3, c1, c2, _, _⟩ := (R.keeps kp).ld zK_ (by decide) h00
  refine Gx.Wp.bnd a1 (Gx.Wp.bnd a2 (Gx.Wp.bnd (zRc_ x) (Gx.Wp.bnd b1 (Gx.Wp.bnd b2 (Gx.Wp.bnd (zRc_ x) ?_)))))
  refine Gx.Wp.ifn (by have := zGz_ x; unfold zVx_ at this; rw [this]; decide) ?_
  refine Gx.Wp.bnd c1 (Gx.Wp.bnd c2 (Gx.Wp.bnd (zRc_ l0) (Gx.Wp.bnd b1 (Gx.Wp.bnd b2 (Gx.Wp.bnd (zRc_ x) ?_)))))
  obtain ⟨h1, e1, k1⟩ := zcv_ k0 D l0 x h
  refine Gx.Wp.bnd e1 ?_
  obtain ⟨q4, d1, d2, _, _⟩ := (Rk.keeps (kp.trans k1)).ld zK_ (by decide) h00
  obtain ⟨q4', d1', d2', _, _⟩ := (Rk.keeps kp).ld zK_ (by decide) h00
  rw [d1] at d1'; cases d1'
  obtain ⟨q5, f1, f2, _, _⟩ := (Rk.keeps (kp.trans k1)).ld zK_ (by decide) hxi
  obtain ⟨q5', f1', f2', _, _⟩ := (Rk.keeps kp).ld zK_ (by decide) hxi
  rw [f1] at f1'; cases f1'
  refine Gx.Wp.bnd d1 (Gx.Wp.bnd d2 (Gx.Wp.gp (ssw1 (by simp only [d2']; rfl)) (Gx.Wp.bnd (zRc_ l0) (Gx.Wp.bnd f1 (Gx.Wp.bnd f2 (Gx.Wp.gp (ssw1 (by simp only [f2']; rfl)) (Gx.Wp.bnd (zRc_ x) ?_)))))))
  obtain ⟨h2, e2, k2⟩ := zYs_ k0 D l0 x h1
  refine Gx.Wp.bnd e2 ?_
  subst hj2
  refine Gx.Wp.ifn (by simp) ?_
  rw [Gx.w1 (by omega)]
  exact ih (i + 1) h2 (by omega) (kp.trans (k1.trans k2))
theorem zzH_ {k0 : Nat} (hk0 : 1000 ≤ k0) (D : za_) (j) (bot) {h0 : AHeap} {l : Slc} {xs : List Sh} (R : RowW 6 shC h0 l xs) (hx : xs.length ≤ 12)
  (hj : ∀ own kv h, zb_ h0 h → AccW 6 shC 33 h0.next h own xs → AccW 6 shC 34 h0.next h kv xs → Tru (j l own kv h) true) :
  ∀ (d i : Nat) (own kv : Slc) (h : AHeap), i + d = xs.length → zb_ h0 h → AccW 6 shC 33 h0.next h own (xs.take i) → AccW 6 shC 34 h0.next h kv (xs.take i) → (∀ a b, own.a = some a → kv.a = some b → a.block ≠ b.block) →
   Tru (zh_ bot (d + 1) (zCb_ k0 D j) l own kv (i : Int) h) true := fun d => by
 induction d with
 | zero =>
  intro i own kv h hi kp A B ap
  rw [ze_]; simp only [zCb_]
  obtain rfl : i = xs.length := by omega
  rw [List.take_length] at A B
  exact Tru.ifn (by rw [R.len]; simp) (hj own kv h kp A B)
 | succ d ih =>
  intro i own kv h hi kp A B ap
  rw [ze_]; simp only [zCb_]
  refine Tru.ifp (by rw [R.len]; simp; omega) ?_
  obtain ⟨x, hxi⟩ := zy_ (l := xs) (i := i) (by omega)
  refine Tru.jn fun j2 hj2 => ?_
  obtain ⟨q1, a1, a2, a3, a4⟩ := (R.keeps kp).ld zK_ (by decide) hxi
  have key : ∀ y : Bool, Tru (j2 l own kv (i : Int) y h) true := by
   intro y
   subst hj2
   cases y with
   | true =>
    obtain ⟨h', r, _⟩ := zVm_ (k := k0) (by omega) D h
    exact Tru.ifp rfl (Tru.bnd r Tru.of)
   | false =>
    refine Tru.ifn (by decide) ?_
    refine Tru.bnd a1 (Tru.bnd a2 (Tru.bnd (zRc_ x) (Tru.bnd (zJn_ zK_ x 33) ?_)))
    obtain ⟨o2, h1, e1, A1, c1, n1⟩ := A.push zK_ zqq_ x (bytes := 64) (by decide) (by rw [List.length_take]; omega) kp.nx
    refine Tru.bnd e1 ?_
    have kp1 : zb_ h0 h1 := Chg.beh kp c1 fun y hy ⟨a, ha, e⟩ => by have := (A.lt a ha).2; omega
    have B1 : AccW 6 shC 34 h0.next h1 kv (xs.take i) := B.chg c1 fun a ha ⟨b, hb, e⟩ => ap b a hb ha e.symm
    obtain ⟨q2, b1, b2, _, _⟩ := (R.keeps kp1).ld zK_ (by decide) hxi
    obtain ⟨h2, e2, k2⟩ := zqG_ k0 D x h1
    refine Tru.bnd b1 (Tru.bnd b2 (Tru.bnd (zRc_ x) (Tru.bnd e2 (Tru.bnd (zJn_ zK_ x 34) ?_))))
    obtain ⟨v2, h3, e3, B3, c3, n3⟩ := (B1.keeps k2).push zK_ zqq_ x (bytes := 64) (by decide) (by rw [List.length_take]; omega) (kp1.trans k2).nx
    refine Tru.bnd e3 ?_
    have apo : ∀ a b, o2.a = some a → kv.a = some b → a.block ≠ b.block := fun a b ha hb => by
     have := n1 a ha
     have := (B.lt b hb).1
     omega
    have A3 := (A1.keeps k2).chg c3 fun a ha ⟨b, hb, e⟩ => apo a b ha hb e
    rw [Gx.w1 (by omega)]
    refine ih (i + 1) o2 v2 h3 (by omega) (Chg.beh (kp1.trans k2) c3 fun y hy ⟨a, ha, e⟩ => by have := (B1.lt a ha).2; omega) ?_ ?_ fun a b ha hb => ?_
    ·rw [List.take_add_one, hxi]; exact A3
    ·rw [List.take_add_one, hxi]; exact B3
    ·have := n3 b hb
     have := (A1.lt a ha).1
     have := k2.nx
     omega
  refine Tru.bnd a1 (Tru.bnd (a3 0 .i64 x.1 rfl) ?_)
  by_cases c1 : x.1 > 12
  ·exact Tru.ifp (by simpa using c1) (key true)
  ·refine Tru.ifn (by simpa using c1) (Tru.bnd a1 (Tru.bnd (a3 1 .i64 x.2.1 rfl) ?_))
   by_cases c2 : x.2.1 > 12
   ·exact Tru.ifp (by simpa using c2) (key true)
   ·refine Tru.ifn (by simpa using c2) (Tru.bnd a1 (Tru.bnd (a3 3 .i64 x.2.2.2.1 rfl) ?_))
    by_cases c3 : x.2.2.2.1 > 300
    ·exact Tru.ifp (by simpa using c3) (key true)
    ·exact Tru.ifn (by simpa using c3) (Tru.bnd a1 (Tru.bnd (a4 5 x.2.2.2.2.2 rfl) (key _)))
theorem Tru.wp {R : Type} {v : R} {x : Option (R × AHeap)} (h : Gx.Wp x fun q => q.1 = v) : Tru x v := by
 obtain ⟨⟨b, g⟩, e, rfl⟩ := h
 exact ⟨g, e⟩
theorem zcx_ {k0 : Nat} (hk0 : 200000 ≤ k0) {h : AHeap} (kg : KG 0 h) {l : Slc} {xs : List Sh} (R : RowW 6 shC h l xs) : Tru (zJb_ k0 (DD k0) l h) true := by
 simp only [zJb_]
 by_cases hx : xs.length > 12
 ·obtain ⟨h', r, _⟩ := zVm_ (k := k0) (by omega) (DD k0) h
  exact Tru.ifp (by rw [R.len]; simp; omega) (Tru.bnd r Tru.of)
 ·refine Tru.ifn (by rw [R.len]; simp; omega) ?_
  refine Tru.jn fun j hj => ?_
  unfold zch_
  obtain ⟨bot1, e1⟩ := zp_ (fun _ _ _ _ _ => none) (zCb_ k0 (DD k0) j) (show xs.length + 1 ≤ k0 by omega)
  rw [e1]
  refine zzH_ (by omega) (DD k0) j bot1 R (by omega) ?_ xs.length 0 _ _ h (by omega) (Chg.refl _ _) (AccW.nil _ _ _ _ _) (AccW.nil _ _ _ _ _) (fun a b ha _ => by cases ha)
  intro own kv h1 k1 A B
  subst hj
  obtain ⟨⟨g, h2⟩, r2, z1, z2⟩ := zDz_ hk0 (kg.chg k1 fun f => f) (A.row zK_) (by omega)
  obtain ⟨⟨g', h3⟩, r3, y1, y2⟩ := zxx_ hk0 (DD k0) ((B.row zK_).keeps z2) (by omega)
  simp only at z1 z2 y1 y2
  subst z1 y1
  refine Tru.bnd r2 (Tru.bnd r3 ?_)
  refine Tru.jn fun j2 hj2 => ?_
  unfold zih_
  obtain ⟨bot0, e0⟩ := zp_ (fun _ _ _ _ _ _ _ _ _ => none) (zFb_ k0 (DD k0) j2) (show xs.length + 1 ≤ k0 by omega)
  rw [e0]
  have K : zb_ h1 h3 := z2.trans y2
  refine Tru.wp (zCH_ (k0 := k0) (Q := fun q => q.1 = true) (DD k0) j2 bot0 (l0 := xs.headD zSh) (R.keeps (k1.trans K)) ((A.row zK_).keeps K) ((B.row zK_).keeps K) (by omega) (fun hne => ?_) _ _ _ _ ?_ xs.length 0 h3 (by omega) (Chg.refl _ _))
  ·cases xs with
   | nil => exact absurd rfl hne
   | cons x xs => rfl
  ·intro h4 k4
   subst hj2
   obtain ⟨h', r, _⟩ := zVm_ (k := k0) (by omega) (DD k0) h4
   exact Gx.Wp.ifp (by simp [zHi_]) (Gx.Wp.ifp (by simp) (Gx.Wp.bnd r (Gx.Wp.of rfl)))
end Gz
namespace Gz
open Go Gx Go.Proofs
def shT : DT := .pair (.int .i64) (.pair (.int .i64) (.pair (.int .i64) (.pair (.int .i64) (.pair .str (.pair .str .unit)))))
def shF (x : shT.V) : Sh := (x.1, x.2.1, x.2.2.1, x.2.2.2.1, x.2.2.2.2.1, x.2.2.2.2.2.1)
theorem zHC_ {h : AHeap} (x : shT.V) (cs : List Value) (r : Rep h shT x cs) : cs = shC (shF x) := by
 obtain ⟨_, _, rfl, rfl, _, _, rfl, rfl, _, _, rfl, rfl, _, _, rfl, rfl, _, _, rfl, rfl, _, _, rfl, rfl, rfl⟩ := r
 rfl
theorem zKz_ {k0 : Nat} (hk0 : 200000 ≤ k0) {h : AHeap} (kg : KG 0 h) {l : Slc} {xs : List shT.V} (R : Rep h (.list shT) xs [.slice l.a l.len l.cap]) : Tru (zJb_ k0 (DD k0) l h) true :=
 zcx_ hk0 kg (R.rowW (f := shF) (enc := shC) zHC_)
end Gz
