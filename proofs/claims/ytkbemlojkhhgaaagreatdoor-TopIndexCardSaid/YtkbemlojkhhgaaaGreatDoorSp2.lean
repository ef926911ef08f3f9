import Derived.Test.YtkbemlojkhhgaaaGreatDoorSp1
namespace Gg
open Go Gx
theorem zXu_ {l : List UInt8} {d n : Nat} (hn : 4 ≤ n) : (seqB l d n).length ≤ 2 * (l.length + n) := by
 have h1 := zQj_ l.length
 have h2 := zQj_ (n - 4)
 unfold seqB
 split
 ·simp only [List.length_append, List.length_cons]; omega
 ·simp only [List.length_append, List.length_cons, List.length_nil]; omega
structure PK (h0 H : AHeap) (mb pb wb : Nat) (s : ByteArray) (es : List Fr) (o : Slc) (out : List UInt8) : Prop where
 kp : zc_ h0 H
 m : zsc_ keyV vI H mb es
 p : H.get pb = some (.cells [.string s, .map (some mb)] 180 true 0)
 W : WB H wb o out
 lm : mb < pb
 lp : pb < wb
 lh : h0.next ≤ mb
 k4 : ∀ e ∈ es, e.1.length = 4
section
variable {k mb pb wb : Nat} {s : ByteArray} {es : List Fr} {o : Slc} {out : List UInt8} {D : za_} {h0 H H' : AHeap}
theorem PK.keeps (P : PK h0 H mb pb wb s es o out) (c : zc_ H H') : PK h0 H' mb pb wb s es o out :=
 have := P.W.lt; have := P.lm; have := P.lp
 ⟨P.kp.trans c, P.m.chg c (by omega) (fun f => f), c.got (by omega) P.p, P.W.keeps c, P.lm, P.lp, P.lh, P.k4⟩
theorem zwq_ {h0 H H' : AHeap} {n : Nat} (k : zc_ h0 H) (c : Chg (fun y => n ≤ y) H H') (h : h0.next ≤ n) : zc_ h0 H' := k.keepsS c fun y hy => by have hy : n ≤ y := hy; omega
theorem zuv_ {Q : (ByteArray × Int) × AHeap → Prop} {rec20 : ByteArray → (Option Addr) → (Option Addr) → Int → Int → AHeap → Option ((ByteArray × Int) × AHeap)} (kept : Int) (step : Nat) (hs : s.size ≤ 1048576) (hst : step ≤ 1048576) (bot) :
  ∀ (d j i : Nat) (es : List Fr) (H : AHeap), j + d = step → i + d ≤ s.size → PK h0 H mb pb wb s es o out → (∀ H', PK h0 H' mb pb wb s (putN (bl s) d i es) o out → Gx.Wp (rec20 s (some ⟨pb, 0, none⟩) (some ⟨wb, 0, none⟩) kept ((i + d : Nat) : Int) H') Q) →
  Gx.Wp (zi_ bot (d + 1) (znf_ k D rec20) s (some ⟨pb, 0, none⟩) (some ⟨wb, 0, none⟩) kept (i : Int) (step : Int) (j : Int) H) Q := by
 intro d
 induction d with
 | zero =>
  intro j i es H hd hi P J
  rw [zg_]; simp only [znf_]
  exact .ifn (by simp; omega) (J H P)
 | succ d ih =>
  intro j i es H hd hi P J
  rw [zg_]; simp only [znf_]
  refine .ifp (by simp; omega) (Wp.jn fun j48 h48 => ?_)
  have go : ∀ H', PK h0 H' mb pb wb s (put1 (bl s) i es) o out → Gx.Wp (j48 s (some ⟨pb, 0, none⟩) (some ⟨wb, 0, none⟩) kept (i : Int) (step : Int) (j : Int) H') Q := fun H' P' => by
   rw [h48]
   dsimp only
   rw [Gx.w1 (by omega), Gx.w1 (by omega)]
   refine ih (j + 1) (i + 1) _ H' (by omega) (by omega) P' fun H'' P'' => ?_
   rw [show i + 1 + d = i + (d + 1) by omega]
   exact J H'' P''
  rw [show IntKind.wrap .i64 ((i : Int) + 4) = ((i + 4 : Nat) : Int) by rw [Gx.w64 _ (by omega)]; omega]
  have wl := P.W.lt; have ml := P.lm; have pl := P.lp
  by_cases c : i + 4 ≤ s.size
  ·refine .ifp (by simp; omega) (.call (zPs_ D P.p (by omega) c hs) fun r49 ⟨q49, k49⟩ => ?_)
   have P9 := P.keeps k49
   refine .bnd rfl (.bnd (zvo_ P9.p rfl) (.gp (ssw1 (by rw [zvo_ (sp := none) (o := 0 + 1) P.p rfl]; rfl)) (.bnd rfl ?_)))
   rw [q49]
   have l4 := zqv_ (l := bl s) (i := i) (by rw [zh_]; omega)
   obtain ⟨h', u1, u2, u3, u4⟩ := P9.m.upd (n := four (bl s) i) (fun e he => zdx_ (by rw [l4, P.k4 e he])) i
   refine .bnd u1 (go h' ⟨zwq_ P9.kp (u3.wk fun y _ e => (by have e : y = mb := e; omega : mb ≤ y)) P.lh, ?_, u3.got (by have := P9.W.lt; omega) (by omega) P9.p, P9.W.chg u3 fun y e => .inl (by have e : y = mb := e; omega), P.lm, P.lp, P.lh, ?_⟩)
   ·unfold put1
    rw [if_pos (by rw [zh_]; exact c)]
    exact u2
   ·unfold put1
    rw [if_pos (by rw [zh_]; exact c)]
    intro e he
    rcases zls_ he with ⟨g, _⟩ | g
    ·rw [g]; exact l4
    ·exact P.k4 e g
  ·refine .ifn (by simp; omega) (go H ?_)
   unfold put1
   rw [if_neg (by rw [zh_]; exact c)]
   exact P
theorem zmA_ {j8 : ByteArray → (Option Addr) → Int → AHeap → Option ((ByteArray × Int) × AHeap)}
  (hj : ∀ kept H o out, kept ≤ s.size → WB H wb o out → out.length ≤ 1000000 → zc_ h0 H → Gx.Wp (j8 s (some ⟨wb, 0, none⟩) (kept : Int) H) fun z => z.1 = (⟨⟨out ++ seqB ((bl s).drop kept) 0 0⟩⟩, 0) ∧ zc_ h0 z.2) (hs : s.size ≤ 500000) (hk : 600000 ≤ k) (bot) :
  ∀ (f i kept : Nat) (es : List Fr) (o : Slc) (out : List UInt8) (H : AHeap), s.size < i + f → i ≤ s.size → kept ≤ i → zGk_ i es → out.length ≤ 2 * kept → PK h0 H mb pb wb s es o out →
  Gx.Wp (zi_ bot f (zqf_ k D j8) s (some ⟨pb, 0, none⟩) (some ⟨wb, 0, none⟩) (kept : Int) (i : Int) H) fun z => z.1 = (⟨⟨zxi_ (bl s) f i kept es out⟩⟩, 0) ∧ zc_ h0 z.2 := by
 intro f
 induction f with
 | zero => intro i kept es o out H h1 h2; omega
 | succ f ih =>
  intro i kept es o out H h1 h2 h3 ha ho P
  rw [zg_]; simp only [zqf_]
  have wl := P.W.lt; have ml := P.lm; have pl := P.lp
  have sl : (bl s).length = s.size := zh_ s
  rw [show IntKind.wrap .i64 ((i : Int) + 4) = ((i + 4 : Nat) : Int) by rw [Gx.w64 _ (by omega)]; omega]
  unfold zxi_
  rw [sl]
  by_cases c : i + 4 < s.size
  rotate_left
  ·rw [if_neg c]
   exact .ifn (by simp; omega) (hj kept H o out (by omega) P.W (by omega) P.kp)
  rw [if_pos c]
  refine .ifp (by simp; omega) (.call (zTy_ D P.p (by omega) (by omega) P.m P.k4 ha (by omega) (by omega) (by omega)) fun r21 ⟨q21, k21⟩ => ?_)
  have P1 := P.keeps k21
  rw [q21]
  obtain ⟨m, em⟩ : ∃ m, m = min (znb_ (bl s) i es).2 (s.size - 1 - i) := ⟨_, rfl⟩
  rw [← em]
  have et : IntKind.wrap .i64 ((IntKind.wrap .i64 ((s.size : Int) - 1)) - (i : Int)) = ((s.size - 1 - i : Nat) : Int) := by rw [Gx.w64 ((s.size : Int) - 1) (by omega), Gx.w64 _ (by omega)]; omega
  have em2 : (if (((s.size - 1 - i : Nat) : Int)) < ((znb_ (bl s) i es).2 : Int) then (((s.size - 1 - i : Nat) : Int)) else ((znb_ (bl s) i es).2 : Int)) = (m : Int) := by
   by_cases z : s.size - 1 - i < (znb_ (bl s) i es).2
   ·rw [if_pos (by omega)]; omega
   ·rw [if_neg (by omega)]; omega
  simp only [et, em2]
  refine Wp.jn fun j30 h30 => ?_
  have bo := zwu_ (s := bl s) ha
  by_cases c4 : 4 ≤ m
  ·rw [if_pos c4]
   rcases bo with b | ⟨b1, b2, b3, b4⟩
   ·omega
   refine .ifp (by simp; omega) ?_
   have es1 : Gx.subS s (some (kept : Int)) (some (i : Int)) = some ⟨⟨((bl s).take i).drop kept⟩⟩ := zFb_ rfl rfl h3 h2
   have sz1 : (⟨⟨((bl s).take i).drop kept⟩⟩ : ByteArray).size = i - kept := by rw [zXb_]; simp; omega
   refine .bnd es1 (.call (zOm_ P1.W ⟨⟨((bl s).take i).drop kept⟩⟩ (by omega) b2 (.inl c4) (by omega) (by omega) (by omega)) fun r57 ⟨o', W', c'⟩ => ?_)
   rw [zre_] at W'
   have P2 : PK h0 r57.2 mb pb wb s es o' (out ++ seqB (((bl s).take i).drop kept) (znb_ (bl s) i es).1 m) :=
    ⟨zwq_ P1.kp c' (by have := P.lh; omega), P1.m.chg c' (by have := P1.W.lt; omega) (by omega), c'.got (by have := P1.W.lt; omega) (by omega) P1.p, W', P.lm, P.lp, P.lh, P.k4⟩
   rw [show IntKind.wrap .i64 ((i : Int) + (m : Int)) = ((i + m : Nat) : Int) by rw [Gx.w64 _ (by omega)]; omega, h30]
   dsimp only
   unfold zIm_
   obtain ⟨bot2, eb2⟩ := zq_ (fun _ _ _ _ _ _ _ _ => none) (znf_ k D (zi_ bot f (zqf_ k D j8))) (show m + 1 ≤ k by omega)
   rw [eb2]
   have sq := zXu_ (l := ((bl s).take i).drop kept) (d := (znb_ (bl s) i es).1) c4
   have sl2 : (((bl s).take i).drop kept).length = i - kept := by simp; omega
   rw [show (0 : Int) = ((0 : Nat) : Int) from rfl]
   refine zuv_ _ m (by omega) (by omega) bot2 m 0 i es r57.2 (by omega) (by omega) P2 fun H' P3 => ?_
   exact ih (i + m) (i + m) _ o' _ H' (by omega) (by omega) (Nat.le_refl _) (zHh_ m i ha) (by rw [List.length_append]; omega) P3
  ·rw [if_neg c4]
   refine .ifn (by simp; omega) ?_
   rw [h30]
   dsimp only
   unfold zIm_
   obtain ⟨bot2, eb2⟩ := zq_ (fun _ _ _ _ _ _ _ _ => none) (znf_ k D (zi_ bot f (zqf_ k D j8))) (show 1 + 1 ≤ k by omega)
   rw [eb2]
   rw [show (0 : Int) = ((0 : Nat) : Int) from rfl]
   refine zuv_ _ 1 (by omega) (by omega) bot2 1 0 i es r21.2 (by omega) (by omega) P1 fun H' P3 => ?_
   exact ih (i + 1) kept _ o _ H' (by omega) (by omega) (by omega) (zHh_ 1 i ha) ho P3
end
theorem znz_ {k : Nat} {s : ByteArray} {h : AHeap} (D : za_) (hs : s.size ≤ 500000) (hk : 600000 ≤ k) :
  Gx.Wp (zqp_ k D s h) fun z => z.1 = (⟨⟨zse_ (bl s)⟩⟩, 0) ∧ zc_ h z.2 := by
 simp only [zqp_]
 refine .ifn (by simp; omega) (Wp.newE fun h1 e1 k1 n1 g1 => Wp.newE fun h2 e2 k2 n2 g2 => Wp.newE fun h3 e3 k3 n3 g3 => Wp.jn fun j8 h8 => ?_)
 unfold zUq_
 obtain ⟨bot, eb⟩ := zq_ (fun _ _ _ _ _ _ => none) (zqf_ k D j8) (show s.size + 1 ≤ k by omega)
 rw [eb]
 have P : PK h h3 h.next h1.next h2.next s [] ⟨none, 0, 0⟩ [] :=
  ⟨(k1.trans k2).trans k3, zc_.got (k2.trans k3) (by omega) g1, k3.got (by omega) g2, ⟨g3, Acc.nil _ _ _ _, by omega⟩, by omega, by omega, Nat.le_refl _, fun e he => by cases he⟩
 refine .mono (zmA_ ?_ hs hk bot (s.size + 1) 0 0 [] ⟨none, 0, 0⟩ [] h3 (by omega) (by omega) (by omega) (fun e he => by cases he) (by simp) P) fun z ⟨w1, w2⟩ => ⟨?_, w2⟩
 ·intro kept H o out hkept B hl kp
  rw [h8]
  have es1 : Gx.subS s (some (kept : Int)) none = some ⟨⟨((bl s).take s.size).drop kept⟩⟩ := zFb_ rfl rfl hkept (Nat.le_refl _)
  rw [List.take_of_length_le (by rw [zh_]; exact Nat.le_refl _)] at es1
  have sz1 : (⟨⟨(bl s).drop kept⟩⟩ : ByteArray).size ≤ s.size := by rw [zXb_, List.length_drop, zh_]; omega
  refine .bnd es1 (.call (zOm_ (d := 0) (n := 0) B ⟨⟨(bl s).drop kept⟩⟩ (by omega) (by omega) (.inr rfl) (by omega) (by omega) (by omega)) fun r10 ⟨o', B', c'⟩ => ?_)
  exact .bnd rfl (.bnd (zB_ B'.g rfl) (.bnd (zJA_ B'.A) (.of ⟨rfl, zwq_ kp c' (by omega)⟩)))
 ·rw [w1, zse_, zh_]
end Gg
namespace Gg.B
open Go Gx
theorem zne_ (k0 : Nat) (D : za_) (x : UInt32) (h : AHeap) {q : Int} (n : Nat) (hn : 0 < n ∧ n < 32) (hq : Go.bits .and .u64 (IntKind.wrap .u64 q) 31 = ((32 - n : Nat) : Int)) : zE_ k0 D (x.toNat : Int) q h = some (((rotr x n).toNat : Int), h) := by
 simp only [zE_, hq]
 rw [if_pos (by omega)]
 have e2 : IntKind.wrap .u64 (32 - ((32 - n : Nat) : Int)) = ((n : Nat) : Int) := by
  rw [show (32 : Int) - ((32 - n : Nat) : Int) = (n : Int) by omega]
  exact zmr_ _ (by omega) (by omega)
 rw [e2, if_pos (by omega), Int.toNat_natCast, Int.toNat_natCast]
 have m1 : min (32 - n) (IntKind.bits .u32) = 32 - n := Nat.min_eq_left (by show 32 - n ≤ 32; omega)
 have m2 : min n (IntKind.bits .u32) = n := Nat.min_eq_left (by show n ≤ 32; omega)
 rw [m1, m2]
 have p1 : (2 : Int) ^ (32 - n) = ((2 ^ (32 - n) : Nat) : Int) := by simp
 have p2 : (2 : Int) ^ n = ((2 ^ n : Nat) : Int) := by simp
 rw [p1, p2, shlU x (32 - n) (by omega), shrU x n (by omega), orU]
 rfl
theorem zhC_ (K : Nat) (D : za_) (j) (bot) {Q : List Value × AHeap → Prop} {h0 : AHeap} {b : Slc} {blk : List UInt8} (R : Row encB h0 b blk) (hl : blk.length = 64) {wb : Nat} (hwb : h0.next ≤ wb) {f : Nat → UInt32} (hf : ∀ i, i < 16 → f i = wAt blk i)
  (hj : ∀ h, zc_ h0 h → h.get wb = some (.cells (filU f 64 16) 171 true 0) → Wp (j (some ⟨wb, 0, none⟩) h) Q) :
  ∀ (d i : Nat) (h : AHeap), i + d = 16 → zc_ h0 h → h.get wb = some (.cells (filU f 64 i) 171 true 0) → Wp (zi_ bot (d + 1) (zMe_ K D j) b (some ⟨wb, 0, none⟩) (i : Int) h) Q
 | 0, i, h, hi, kp, hb => by
  obtain rfl : i = 16 := by omega
  rw [zg_]; simp only [zMe_]
  exact Wp.ifn (by simp) (hj h kp hb)
 | d + 1, i, h, hi, kp, hb => by
  rw [zg_]; simp only [zMe_]
  refine Wp.ifp (by simp; omega) ?_
  obtain ⟨x0, g0⟩ := zv_ (l := blk) (i := 4 * i) (by omega)
  obtain ⟨x1, g1⟩ := zv_ (l := blk) (i := 4 * i + 1) (by omega)
  obtain ⟨x2, g2⟩ := zv_ (l := blk) (i := 4 * i + 2) (by omega)
  obtain ⟨x3, g3⟩ := zv_ (l := blk) (i := 4 * i + 3) (by omega)
  have R' := R.keeps kp
  obtain ⟨q0, a0, c0⟩ := R'.ldB g0
  obtain ⟨q1, a1, c1⟩ := R'.ldB g1
  obtain ⟨q2, a2, c2⟩ := R'.ldB g2
  obtain ⟨q3, a3, c3⟩ := R'.ldB g3
  have e0 : IntKind.wrap .i64 (4 * (i : Int)) = ((4 * i : Nat) : Int) := sw64 (by omega) (by omega)
  have e1 : IntKind.wrap .i64 (((4 * i : Nat) : Int) + 1) = ((4 * i + 1 : Nat) : Int) := sw64 (by omega) (by omega)
  have e2 : IntKind.wrap .i64 (((4 * i : Nat) : Int) + 2) = ((4 * i + 2 : Nat) : Int) := sw64 (by omega) (by omega)
  have e3 : IntKind.wrap .i64 (((4 * i : Nat) : Int) + 3) = ((4 * i + 3 : Nat) : Int) := sw64 (by omega) (by omega)
  rw [e0, e1, e2, e3]
  refine Wp.bnd a0 (Wp.bnd c0 (Wp.bnd a1 (Wp.bnd c1 (Wp.bnd a2 (Wp.bnd c2 (Wp.bnd a3 (Wp.bnd c3 (Wp.bnd rfl (Wp.bnd (zoi_ (by omega)) ?_)))))))))
  rw [zWA_]
  have ev : be32 x0 x1 x2 x3 = f i := by rw [hf i (by omega)]; unfold wAt; rw [g0, g1, g2, g3]; rfl
  rw [ev]
  have hst : st1 ⟨wb, i, none⟩ (.int .u32 ((f i).toNat : Int)) h = some (h.set wb (.cells (filU f 64 (i + 1)) 171 true 0)) := by
   rw [zpc_ hb (by rw [zRp_ (by omega)]; omega) rfl, zrv_ (by omega)]
  refine Wp.bnd hst ?_
  rw [Gx.w1 (by omega)]
  exact zhC_ K D j bot R hl hwb hf hj d (i + 1) _ (by omega) (kp.set hwb) (zmb_ _ _ _)
theorem zoC_ (K : Nat) (D : za_) (j) (bot) {Q : List Value × AHeap → Prop} {h0 : AHeap} {wb : Nat} (hwb : h0.next ≤ wb) {m : Nat → UInt32}
  (hj : ∀ h, zc_ h0 h → h.get wb = some (.cells (filU (zab_ m) 64 64) 171 true 0) → Wp (j (some ⟨wb, 0, none⟩) h) Q) :
  ∀ (d i : Nat) (h : AHeap), i + d = 64 → 16 ≤ i → zc_ h0 h → h.get wb = some (.cells (filU (zab_ m) 64 i) 171 true 0) → Wp (zi_ bot (d + 1) (zPe_ K D j) (some ⟨wb, 0, none⟩) (i : Int) h) Q
 | 0, i, h, hi, h16, kp, hb => by
  obtain rfl : i = 64 := by omega
  rw [zg_]; simp only [zPe_]
  exact Wp.ifn (by simp) (hj h kp hb)
 | d + 1, i, h, hi, h16, kp, hb => by
  rw [zg_]; simp only [zPe_]
  refine Wp.ifp (by simp; omega) ?_
  have e15 : IntKind.wrap .i64 ((i : Int) - 15) = ((i - 15 : Nat) : Int) := sw64 (by omega) (by omega)
  have e2 : IntKind.wrap .i64 ((i : Int) - 2) = ((i - 2 : Nat) : Int) := sw64 (by omega) (by omega)
  have e16 : IntKind.wrap .i64 ((i : Int) - 16) = ((i - 16 : Nat) : Int) := sw64 (by omega) (by omega)
  have e7 : IntKind.wrap .i64 ((i : Int) - 7) = ((i - 7 : Nat) : Int) := sw64 (by omega) (by omega)
  rw [e15, e2, e16, e7]
  have ld : ∀ jj, jj < i → ldI .u32 ⟨wb, jj, none⟩ h = some ((zab_ m jj).toNat : Int) := fun jj hjj => zp_ hb (zQB_ hjj)
  refine Wp.bnd rfl (Wp.bnd (zoi_ (by omega)) (Wp.bnd (ld _ (by omega)) (Wp.bnd rfl (Wp.bnd (zoi_ (by omega)) (Wp.bnd (ld _ (by omega)) ?_)))))
  refine Wp.bnd (zne_ K D _ h 7 (by decide) (by decide)) (Wp.bnd (zne_ K D _ h 18 (by decide) (by decide)) (Wp.bnd (zne_ K D _ h 17 (by decide) (by decide)) (Wp.bnd (zne_ K D _ h 19 (by decide) (by decide)) ?_)))
  refine Wp.bnd rfl (Wp.bnd (zoi_ (by omega)) (Wp.bnd (ld _ (by omega)) (Wp.bnd rfl (Wp.bnd (zoi_ (by omega)) (Wp.bnd (ld _ (by omega)) (Wp.bnd rfl (Wp.bnd (zoi_ (by omega)) ?_)))))))
  have s3 : Int.fdiv ((zab_ m (i - 15)).toNat : Int) 8 = ((zab_ m (i - 15) >>> 3).toNat : Int) := shrU _ 3 (by decide)
  have s10 : Int.fdiv ((zab_ m (i - 2)).toNat : Int) 1024 = ((zab_ m (i - 2) >>> 10).toNat : Int) := shrU _ 10 (by decide)
  simp only [s3, s10, xorU, addU]
  have ev : zab_ m (i - 16) + (rotr (zab_ m (i - 15)) 7 ^^^ rotr (zab_ m (i - 15)) 18 ^^^ zab_ m (i - 15) >>> 3) + zab_ m (i - 7) + (rotr (zab_ m (i - 2)) 17 ^^^ rotr (zab_ m (i - 2)) 19 ^^^ zab_ m (i - 2) >>> 10) = zab_ m i := (zVA_ h16).symm
  rw [ev]
  have hst : st1 ⟨wb, i, none⟩ (.int .u32 ((zab_ m i).toNat : Int)) h = some (h.set wb (.cells (filU (zab_ m) 64 (i + 1)) 171 true 0)) := by
   rw [zpc_ hb (by rw [zRp_ (by omega)]; omega) rfl, zrv_ (by omega)]
  refine Wp.bnd hst ?_
  rw [Gx.w1 (by omega)]
  exact zoC_ K D j bot hwb hj d (i + 1) _ (by omega) (by omega) (kp.set hwb) (zmb_ _ _ _)
theorem zVv_ {k0 : Nat} (hk : 100 ≤ k0) (D : za_) {h : AHeap} {b : Slc} {blk : List UInt8} (R : Row encB h b blk) (hl : blk.length = 64) :
  Wp (zpj_ k0 D b h) fun r => r.1 = (List.range 64).map (fun i => encU (zab_ (wAt blk) i)) ∧ zc_ h r.2 := by
 simp only [zpj_]
 let h1 := h.new (.cells (List.replicate 64 (.int .u32 0)) 171 true 0)
 have k1 : zc_ h h1 := zc_.new h _
 have g1 : h1.get h.next = some (.cells (filU (zab_ (wAt blk)) 64 0) 171 true 0) := by rw [zvz_]; simp [h1]
 refine Wp.jn fun j1 hj1 => ?_
 unfold zWm_
 obtain ⟨bot1, e1⟩ := zq_ (fun _ _ _ _ => none) (zMe_ k0 D j1) (show 16 + 1 ≤ k0 by omega)
 rw [e1]
 refine zhC_ k0 D j1 bot1 R hl (Nat.le_refl _) (f := zab_ (wAt blk)) (fun i hi => zXA_ hi) ?_ 16 0 h1 (by omega) k1 g1
 intro h2 k2 g2
 subst hj1
 refine Wp.jn fun j2 hj2 => ?_
 unfold zTm_
 obtain ⟨bot2, e2⟩ := zq_ (fun _ _ _ => none) (zPe_ k0 D j2) (show 48 + 1 ≤ k0 by omega)
 rw [e2]
 refine zoC_ k0 D j2 bot2 (Nat.le_refl _) ?_ 48 16 h2 (by omega) (by omega) k2 g2
 intro h3 k3 g3
 subst hj2
 rw [zZB_] at g3
 obtain ⟨L, hL⟩ : ∃ L, L = (List.range 64).map fun i => encU (zab_ (wAt blk) i) := ⟨_, rfl⟩
 rw [← hL] at g3 ⊢
 have hlen : L.length = 64 := by rw [hL]; simp
 have l3 := zA_ (sp := none) g3 hlen
 have s3 := zjp_ (sp := none) g3 hlen hlen (by rw [hL]; exact zKu_ _ _) (by decide)
 have l4 := zA_ (sp := none) (zmb_ h3 h.next (.cells L 171 true 0)) hlen
 have hd : decA 64 (.agg ⟨L⟩) = some L := by
  show (bif Nat.beq L.length 64 then some L else none) = some L
  rw [hlen]; rfl
 exact Wp.bnd rfl (Wp.bnd l3 (Wp.bnd rfl (Wp.bnd s3 (Wp.bnd rfl (Wp.bnd l4 (Wp.bnd hd (Wp.of ⟨rfl, k3.set (Nat.le_refl _)⟩)))))))
structure HS (h : AHeap) (hb : Nat) (s : St) (r : Slc) (long : Int) : Prop where
 blk : h.get hb = some (.cells (zY_ (wl s) r long) 142 true 0)
 lt : hb < h.next
theorem HS.chg {S : Nat → Prop} {h h' : AHeap} {hb : Nat} {s : St} {r : Slc} {long : Int} (H : HS h hb s r long) (c : Chg S h h') (hs : ¬ S hb) : HS h' hb s r long := ⟨(c.oth hb H.lt hs).trans H.blk, Nat.lt_of_lt_of_le H.lt c.nx⟩
theorem HS.keeps {h h' : AHeap} {hb : Nat} {s : St} {r : Slc} {long : Int} (H : HS h hb s r long) (c : zc_ h h') : HS h' hb s r long := H.chg c fun f => f
theorem znC_ (K : Nat) (D : za_) (j) (bot) {Q : Unit × AHeap → Prop} {h0 : AHeap} (kg : KG 0 h0) {wb : Nat} {m : Nat → UInt32} (hw : h0.get wb = some (.cells ((List.range 64).map fun i => encU (m i)) 171 true 0)) (hv : Option Addr) (s : St)
  (hj : ∀ t : St, t = zqr_ kAt m 64 s → Wp (j hv (t.a.toNat : Int) (t.b.toNat : Int) (t.c.toNat : Int) (t.d.toNat : Int) (t.e.toNat : Int) (t.f.toNat : Int) (t.g.toNat : Int) (t.h.toNat : Int) h0) Q) :
  ∀ (d i : Nat) (t : St), i + d = 64 → t = zqr_ kAt m i s →
   Wp (zi_ bot (d + 1) (zhd_ K D j) hv (some ⟨wb, 0, none⟩) (t.a.toNat : Int) (t.b.toNat : Int) (t.c.toNat : Int) (t.d.toNat : Int) (t.e.toNat : Int) (t.f.toNat : Int) (t.g.toNat : Int) (t.h.toNat : Int) (i : Int) h0) Q
 | 0, i, t, hi, ht => by
  obtain rfl : i = 64 := by omega
  rw [zg_]; simp only [zhd_]
  exact Wp.ifn (by simp) (hj t ht)
 | d + 1, i, t, hi, ht => by
  rw [zg_]; simp only [zhd_]
  refine Wp.ifp (by simp; omega) ?_
  refine Wp.bnd (zne_ K D _ h0 6 (by decide) (by decide)) (Wp.bnd (zne_ K D _ h0 11 (by decide) (by decide)) (Wp.bnd (zne_ K D _ h0 25 (by decide) (by decide)) ?_))
  have lw : ldI .u32 ⟨wb, i, none⟩ h0 = some ((m i).toNat : Int) := zp_ hw (by rw [List.getElem?_map, List.getElem?_range (by omega)]; rfl)
  refine Wp.bnd (zoi_ (by omega)) (Wp.bnd (kg.ld (by omega)) (Wp.bnd rfl (Wp.bnd (zoi_ (by omega)) (Wp.bnd lw ?_))))
  refine Wp.bnd (zne_ K D _ h0 2 (by decide) (by decide)) (Wp.bnd (zne_ K D _ h0 13 (by decide) (by decide)) (Wp.bnd (zne_ K D _ h0 22 (by decide) (by decide)) ?_))
  simp only [xorU, andU, notU, addU]
  rw [Gx.w1 (by omega)]
  exact znC_ K D j bot kg hw hv s hj d (i + 1) (rnd (kAt i) (m i) t) (by omega) (by rw [ht]; rfl)
theorem zmC_ (K : Nat) (D : za_) (bot) {h0 : AHeap} {hb : Nat} {s t : St} {r : Slc} {long : Int} (hlt : hb < h0.next) :
  ∀ (d i : Nat) (h : AHeap) (l : List UInt32), i + d = 8 → l.length = 8 → (∀ j x y, j < i → (wl s)[j]? = some x → (wl t)[j]? = some y → l[j]? = some (x + y)) → (∀ j, i ≤ j → l[j]? = (wl s)[j]?) → h.get hb = some (.cells (zY_ l r long) 142 true 0) → Chg (fun x => x = hb) h0 h →
   Wp (zi_ bot (d + 1) (zjd_ K D) (some ⟨hb, 0, none⟩) ((t.a.toNat : Int), (t.b.toNat : Int), (t.c.toNat : Int), (t.d.toNat : Int), (t.e.toNat : Int), (t.f.toNat : Int), (t.g.toNat : Int), (t.h.toNat : Int)) (i : Int) h) fun q => HS q.2 hb (zpx_ s t) r long ∧ Chg (fun x => x = hb) h0 q.2
 | 0, i, h, l, hi, hl, l1, l2, hg, c => by
  obtain rfl : i = 8 := by omega
  rw [zg_]; simp only [zjd_]
  refine Wp.ifn (by simp) (Wp.of ⟨⟨?_, Nat.lt_of_lt_of_le hlt c.nx⟩, c⟩)
  have e : l = wl (zpx_ s t) := by
   apply List.ext_getElem?
   intro j
   by_cases hj : j < 8
   ·obtain ⟨x, hx⟩ := zv_ (l := wl s) (i := j) hj
    obtain ⟨y, hy⟩ := zv_ (l := wl t) (i := j) hj
    rw [l1 j x y hj hx hy]
    match j, hj with
    | 0, _ => cases hx; cases hy; rfl
    | 1, _ => cases hx; cases hy; rfl
    | 2, _ => cases hx; cases hy; rfl
    | 3, _ => cases hx; cases hy; rfl
    | 4, _ => cases hx; cases hy; rfl
    | 5, _ => cases hx; cases hy; rfl
    | 6, _ => cases hx; cases hy; rfl
    | 7, _ => cases hx; cases hy; rfl
    | n + 8, h => omega
   ·rw [List.getElem?_eq_none (by omega), List.getElem?_eq_none (by rw [zZ_]; omega)]
  rw [e] at hg
  exact hg
 | d + 1, i, h, l, hi, hl, l1, l2, hg, c => by
  rw [zg_]; simp only [zjd_]
  refine Wp.ifp (by simp; omega) ?_
  refine Wp.ifp (by omega) ?_
  obtain ⟨x, hx⟩ := zv_ (l := wl s) (i := i) (by rw [zZ_]; omega)
  obtain ⟨y, hy⟩ := zv_ (l := wl t) (i := i) (by rw [zZ_]; omega)
  have hly : ((wl t).map encU)[((i : Int)).toNat * 1]? = some (.int .u32 (y.toNat : Int)) := by
   rw [Int.toNat_natCast, Nat.mul_one, List.getElem?_map, hy]; rfl
  refine Wp.bnd hly (Wp.bnd rfl (Wp.bnd rfl ?_))
  have hlx : l[i]? = some x := by rw [l2 i (Nat.le_refl _), hx]
  refine Wp.bnd (zoi_ (by omega)) (Wp.bnd (zp_ hg (zGp_ hlx)) (Wp.bnd rfl (Wp.bnd (zoi_ (by omega)) ?_)))
  rw [addU]
  have hst : st1 ⟨hb, i, none⟩ (.int .u32 ((x + y).toNat : Int)) h = some (h.set hb (.cells (zY_ (l.set i (x + y)) r long) 142 true 0)) := by
   rw [zpc_ hg (by rw [zcf_ hl]; omega) rfl, zzx_ _ (by omega)]
  refine Wp.bnd hst ?_
  rw [Gx.w1 (by omega)]
  refine zmC_ K D bot hlt d (i + 1) _ (l.set i (x + y)) (by omega) (by simpa using hl) (fun j x' y' hj hx' hy' => ?_) (fun j hj => ?_) (zmb_ _ _ _) (c.trans (Chg.set (.inr rfl)))
  ·by_cases e : j = i
   ·subst e
    rw [hx] at hx'; rw [hy] at hy'
    cases hx'; cases hy'
    rw [List.getElem?_set_self (by omega)]
   ·rw [List.getElem?_set_ne (fun q => e q.symm)]
    exact l1 j x' y' (by omega) hx' hy'
  ·rw [List.getElem?_set_ne (by omega)]
   exact l2 j (by omega)
theorem zpA_ {k0 : Nat} (hk : 100 ≤ k0) (D : za_) {h : AHeap} {hb : Nat} {s : St} {r : Slc} {long : Int} (H : HS h hb s r long) (kg : KG 0 h) {b : Slc} {blk : List UInt8} (R : Row encB h b blk) (hl : blk.length = 64) :
  Wp (zDg_ k0 D (some ⟨hb, 0, none⟩) b h) fun q => HS q.2 hb (comp s blk) r long ∧ Chg (fun x => x = hb) h q.2 := by
 simp only [zDg_]
 refine Wp.call (zVv_ hk D R hl) fun a ⟨ha, ka⟩ => ?_
 obtain ⟨L, h1⟩ := a
 simp only at ha ka ⊢
 subst ha
 let h2 := h1.new (.cells (List.replicate 64 (.int .u32 0)) 171 true 0)
 have g2 : h2.get h1.next = some (.cells (List.replicate 64 (.int .u32 0)) 171 true 0) := by simp [h2]
 have s3 := zjp_ (sp := none) g2 (by simp) (show ((List.range 64).map fun i => encU (zab_ (wAt blk) i)).length = 64 by simp) (zKu_ _ _) (by decide)
 refine Wp.bnd s3 ?_
 obtain ⟨h3, e3⟩ : ∃ h3, h3 = h2.set h1.next (.cells ((List.range 64).map fun i => encU (zab_ (wAt blk) i)) 171 true 0) := ⟨_, rfl⟩
 rw [← e3]
 have k3 : zc_ h h3 := by
  rw [e3]
  exact zc_.set (ka.trans (zc_.new h1 _)) ka.nx
 have g3 : h3.get h1.next = some (.cells ((List.range 64).map fun i => encU (zab_ (wAt blk) i)) 171 true 0) := by rw [e3]; exact zmb_ _ _ _
 have H3 := H.keeps k3
 have ld : ∀ {i : Nat} {x : UInt32}, (wl s)[i]? = some x → ldI .u32 ⟨hb, i, none⟩ h3 = some (x.toNat : Int) := fun hx => zp_ H3.blk (zGp_ hx)
 refine Wp.bnd rfl (Wp.bnd (ld (i := 0) rfl) (Wp.bnd rfl (Wp.bnd (ld (i := 1) rfl) (Wp.bnd rfl (Wp.bnd (ld (i := 2) rfl) (Wp.bnd rfl (Wp.bnd (ld (i := 3) rfl) (Wp.bnd rfl (Wp.bnd (ld (i := 4) rfl) (Wp.bnd rfl (Wp.bnd (ld (i := 5) rfl) (Wp.bnd rfl (Wp.bnd (ld (i := 6) rfl) (Wp.bnd rfl (Wp.bnd (ld (i := 7) rfl) ?_)))))))))))))))
 refine Wp.jn fun j1 hj1 => ?_
 unfold ztj_
 obtain ⟨bot1, e1⟩ := zq_ (fun _ _ _ _ _ _ _ _ _ _ _ _ => none) (zhd_ k0 D j1) (show 64 + 1 ≤ k0 by omega)
 rw [e1]
 refine znC_ k0 D j1 bot1 (kg.chg k3 fun f => f) g3 (some ⟨hb, 0, none⟩) s ?_ 64 0 s (by omega) rfl
 intro t ht
 subst hj1
 dsimp only
 unfold zuj_
 obtain ⟨bot2, e2⟩ := zq_ (fun _ _ _ _ => none) (zjd_ k0 D) (show 8 + 1 ≤ k0 by omega)
 rw [e2]
 refine (zmC_ k0 D bot2 (h0 := h3) (s := s) (t := t) (r := r) (long := long) H3.lt 8 0 h3 (wl s) (by omega) rfl (fun j x y hj => by omega) (fun j _ => rfl) H3.blk (Chg.refl _ _)).mono ?_
 rintro q ⟨q1, q2⟩
 refine ⟨?_, (k3.keeps).trans q2⟩
 unfold comp
 rw [← ht]; exact q1
structure Hash (n0 : Nat) (h : AHeap) (hb : Nat) (s : St) (rest : List UInt8) (long : Nat) : Prop where
 ok : ∃ r, HS h hb s r (long : Int) ∧ Acc encB 5 n0 h r rest ∧ ∀ a, r.a = some a → a.block ≠ hb
 le : n0 ≤ hb
theorem Hash.keeps {n0 : Nat} {h h' : AHeap} {hb : Nat} {s : St} {rest : List UInt8} {long : Nat} (H : Hash n0 h hb s rest long) (c : zc_ h h') : Hash n0 h' hb s rest long := by
 obtain ⟨r, h1, h2, h3⟩ := H.ok
 exact ⟨⟨r, h1.keeps c, h2.keeps c, h3⟩, H.le⟩
theorem zme_ {l : List UInt32} {r : Slc} {long : Int} (h : l.length = 8) : (zY_ l r long)[8]? = some (.slice r.a r.len r.cap) := by
 unfold zY_
 rw [List.getElem?_append_right (by simp [h]), List.length_map, h]; rfl
theorem zWk_ {l : List UInt32} {r : Slc} {long : Int} (h : l.length = 8) : (zY_ l r long)[9]? = some (.int .i64 long) := by
 unfold zY_
 rw [List.getElem?_append_right (by simp [h]), List.length_map, h]; rfl
theorem zuw_ {l : List UInt32} {r r' : Slc} {long : Int} (h : l.length = 8) : (zY_ l r long).set 8 (.slice r'.a r'.len r'.cap) = zY_ l r' long := by
 unfold zY_
 rw [List.set_append_right _ _ (by simp [h]), List.length_map, h]; rfl
theorem zZv_ {l : List UInt32} {r : Slc} {long long' : Int} (h : l.length = 8) : (zY_ l r long).set 9 (.int .i64 long') = zY_ l r long' := by
 unfold zY_
 rw [List.set_append_right _ _ (by simp [h]), List.length_map, h]; rfl
theorem HS.setR {h : AHeap} {hb : Nat} {s : St} {r : Slc} {long : Int} (H : HS h hb s r long) (r' : Slc) : st1 ⟨hb, 8, none⟩ (.slice r'.a r'.len r'.cap) h = some (h.set hb (.cells (zY_ (wl s) r' long) 142 true 0)) ∧ HS (h.set hb (.cells (zY_ (wl s) r' long) 142 true 0)) hb s r' long := by
 refine ⟨?_, zmb_ _ _ _, by simpa using H.lt⟩
 rw [zpc_ H.blk (by rw [zcf_ (zZ_ s)]; decide) rfl, zuw_ (zZ_ s)]
theorem HS.setL {h : AHeap} {hb : Nat} {s : St} {r : Slc} {long : Int} (H : HS h hb s r long) (long' : Int) : st1 ⟨hb, 9, none⟩ (.int .i64 long') h = some (h.set hb (.cells (zY_ (wl s) r long') 142 true 0)) ∧ HS (h.set hb (.cells (zY_ (wl s) r long') 142 true 0)) hb s r long' := by
 refine ⟨?_, zmb_ _ _ _, by simpa using H.lt⟩
 rw [zpc_ H.blk (by rw [zcf_ (zZ_ s)]; decide) rfl, zZv_ (zZ_ s)]
theorem zgx_ {n0 : Nat} {h : AHeap} {r : Slc} {l : List UInt8} (A : Acc encB 5 n0 h r l) {i j : Nat} (hij : i ≤ j) (hj : j ≤ l.length) (hi : Option Int) (hhi : hi = some (j : Int) ∨ (hi = none ∧ j = l.length)) :
  ∃ t, Gx.subL 1 r (some (i : Int)) hi none = some t ∧ Row encB h t ((l.take j).drop i) ∧ t.len = j - i := by
 have hlen := A.row.1
 rcases A.st with ⟨rfl, rfl⟩ | ⟨b, g⟩
 ·simp at hj
  subst hj
  obtain rfl : i = 0 := by omega
  refine ⟨⟨none, 0, 0⟩, ?_, Row.nil _ _ _ _, rfl⟩
  rcases hhi with rfl | ⟨rfl, _⟩ <;> rfl
 ·have hg := g.s
  subst hg
  have hb := A.lt ⟨b, 0, some 2⟩ rfl
  have hhv : hi.getD ((l.length : Nat) : Int) = (j : Int) := by
   rcases hhi with rfl | ⟨rfl, e⟩
   ·rfl
   ·rw [e]; rfl
  refine ⟨⟨some ⟨b, if (l.length : Int) = (i : Int) then 0 else i, some 2⟩, j - i, l.length - i⟩, ?_, ⟨?_, fun k x hx => ?_⟩, rfl⟩
  ·simp only [Gx.subL, Option.getD_none, Option.getD_some, hhv]
   rw [if_pos (by omega), if_pos (by rfl)]
   rw [show ((j : Int) - (i : Int)).toNat = j - i by omega, show ((l.length : Int) - (i : Int)).toNat = l.length - i by omega]
   simp
  ·rw [List.length_drop, List.length_take]; show j - i = min j l.length - i; omega
  ·rw [List.getElem?_drop, List.getElem?_take] at hx
   split at hx
   ·have hlt := (List.getElem?_eq_some_iff.1 hx).1
    refine ⟨_, _, _, _, _, rfl, hb.1, g.blk, ?_⟩
    simp only
    rw [if_neg (by omega), List.getElem?_map, hx]; rfl
   ·cases hx
theorem ziC_ {k0 : Nat} (hk : 100 ≤ k0) (D : za_) (j) (bot) {Q : Unit × AHeap → Prop} {n0 hb : Nat} (hn : 0 < n0) (hle : n0 ≤ hb) {long : Int} {r : Slc} {l : List UInt8} (hl : l.length ≤ 140737488355328) (hr : ∀ a, r.a = some a → a.block ≠ hb) {s0 : St}
  {h0 : AHeap} (hj : ∀ h i, Chg (fun x => n0 ≤ x) h0 h → KG 0 h → HS h hb (zYb_ s0 l) r long → Acc encB 5 n0 h r l → i = 64 * (l.length / 64) → Wp (j (some ⟨hb, 0, none⟩) (i : Int) h) Q) :
  ∀ (d : Nat) (i : Nat) (s : St) (h : AHeap), l.length - i < 64 * (d + 1) → i ≤ l.length → i % 64 = 0 → zYb_ s (l.drop i) = zYb_ s0 l → Chg (fun x => n0 ≤ x) h0 h → KG 0 h → HS h hb s r long → Acc encB 5 n0 h r l →
   Wp (zi_ bot (d + 1) (zge_ k0 D j) (some ⟨hb, 0, none⟩) (i : Int) h) Q
 | d, i, s, h, hd, hi, h6, ha, c, kg, H, A => by
  rw [zg_]; simp only [zge_]
  refine Wp.bnd rfl (Wp.bnd (zB_ H.blk (zme_ (zZ_ s))) ?_)
  have hlen : r.len = l.length := A.row.1
  simp only
  rw [hlen, w64 _ (by omega)]
  by_cases c1 : 64 ≤ l.length - i
  ·refine Wp.ifp (by simp; omega) ?_
   obtain ⟨d', rfl⟩ : ∃ d', d = d' + 1 := ⟨d - 1, by omega⟩
   refine Wp.bnd rfl (Wp.bnd (zB_ H.blk (zme_ (zZ_ s))) ?_)
   have e64 : IntKind.wrap .i64 ((i : Int) + 64) = ((i + 64 : Nat) : Int) := sw64 (by omega) (by omega)
   rw [e64]
   obtain ⟨t, e1, R, tl⟩ := zgx_ A (i := i) (j := i + 64) (by omega) (by omega) (some ((i + 64 : Nat) : Int)) (.inl rfl)
   have e1' : Gx.subL 1 ⟨r.a, l.length, r.cap⟩ (some (i : Int)) (some ((i + 64 : Nat) : Int)) none = some t := by
    rw [← hlen]; exact e1
   refine Wp.bnd e1' ?_
   have hblk : ((l.take (i + 64)).drop i).length = 64 := by rw [List.length_drop, List.length_take]; omega
   refine Wp.call (zpA_ hk D H kg R hblk) fun q ⟨q1, q2⟩ => ?_
   have q2' : Chg (fun x => n0 ≤ x) h q.2 := q2.wk fun x _ e => by have e : x = hb := e; show n0 ≤ x; omega
   refine ziC_ hk D j bot hn hle hl hr hj d' (i + 64) _ q.2 (by omega) (by omega) (by omega) ?_ (c.trans q2') (kg.chg q2 (by omega)) q1 (A.chg q2 fun a ha e => hr a ha e)
   rw [← ha, zEn_ (l := l.drop i) (by rw [List.length_drop]; exact c1), List.drop_drop]
   congr 2
   rw [List.drop_take, show i + 64 - i = 64 by omega]
  ·refine Wp.ifn (by simp; omega) ?_
   have hd2 : zYb_ s (l.drop i) = s := zEo_ (by rw [List.length_drop]; omega)
   rw [hd2] at ha
   subst ha
   exact hj h i c kg H A (by omega)
theorem zbe_ {k0 : Nat} (hk : 100 ≤ k0) (D : za_) {n0 : Nat} {h : AHeap} {hb : Nat} {s : St} {rest : List UInt8} {long : Nat} (H : Hash n0 h hb s rest long) (kg : KG 0 h) (hn : 0 < n0) (t : ByteArray) (hlong : long + t.size ≤ 140737488351500) (hrest : rest.length ≤ 3800) (hkt : rest.length + t.size < 64 * k0) :
  Wp (zHe_ k0 D (some ⟨hb, 0, none⟩) t h) fun q => Hash n0 q.2 hb (zYb_ s (rest ++ bl t)) (zEc_ (rest ++ bl t)) (long + t.size) ∧ Chg (fun x => n0 ≤ x) h q.2 := by
 obtain ⟨⟨r, HS0, A0, hr⟩, hle⟩ := H
 simp only [zHe_]
 have e1 : IntKind.wrap .i64 ((long : Int) + (t.size : Int)) = ((long + t.size : Nat) : Int) := sw64 (by omega) (by omega)
 obtain ⟨s1, H1⟩ := HS0.setL ((long + t.size : Nat) : Int)
 refine Wp.bnd rfl (Wp.bnd (zp_ HS0.blk (zWk_ (zZ_ s))) (Wp.bnd rfl (Wp.bnd (by rw [e1]; exact s1) ?_)))
 obtain ⟨h1, eh1⟩ : ∃ h1, h1 = h.set hb (.cells (zY_ (wl s) r ((long + t.size : Nat) : Int)) 142 true 0) := ⟨_, rfl⟩
 rw [← eh1] at H1 ⊢
 have c1 : Chg (fun x => x = hb) h h1 := by rw [eh1]; exact Chg.set (.inr rfl)
 have A1 := A0.chg c1 fun a ha e => hr a ha e
 have n1 : n0 ≤ h1.next := Nat.le_trans hle (Nat.le_of_lt H1.lt)
 obtain ⟨r2, h2, e2, A2, c2, f2⟩ := A1.app (bytes := 1) (fun _ => rfl) (bl t) (by rw [zh_]; omega) (by omega) n1
 rw [zh_] at e2
 refine Wp.bnd rfl (Wp.bnd (zB_ H1.blk (zme_ (zZ_ s))) ?_)
 rw [zJk_]
 refine Wp.bnd e2 ?_
 have H2 : HS h2 hb s r ((long + t.size : Nat) : Int) := H1.chg c2 fun ⟨a, ha, e⟩ => hr a ha e.symm
 have hr2 : ∀ a, r2.a = some a → a.block ≠ hb := fun a ha e => by
  rcases f2 a ha with f | f
  ·have := H1.lt; omega
  ·exact hr a f e
 obtain ⟨s3, H3⟩ := H2.setR r2
 refine Wp.bnd rfl (Wp.bnd s3 ?_)
 obtain ⟨h3, eh3⟩ : ∃ h3, h3 = h2.set hb (.cells (zY_ (wl s) r2 ((long + t.size : Nat) : Int)) 142 true 0) := ⟨_, rfl⟩
 rw [← eh3] at H3 ⊢
 have c3 : Chg (fun x => x = hb) h2 h3 := by rw [eh3]; exact Chg.set (.inr rfl)
 have A3 := A2.chg c3 fun a ha e => hr2 a ha e
 have w1' : Chg (fun x => n0 ≤ x) h h1 := c1.wk fun x _ e => by have e : x = hb := e; show n0 ≤ x; omega
 have w2 : Chg (fun x => n0 ≤ x) h1 h2 := c2.wk fun x _ ⟨a, ha, e⟩ => by have := (A1.lt a ha).2; show n0 ≤ x; omega
 have w3 : Chg (fun x => n0 ≤ x) h2 h3 := c3.wk fun x _ e => by have e : x = hb := e; show n0 ≤ x; omega
 have W3 := w1'.trans (w2.trans w3)
 refine Wp.jn fun j1 hj1 => ?_
 unfold zbj_
 obtain ⟨d, hd⟩ : ∃ d, d = (rest ++ bl t).length / 64 := ⟨_, rfl⟩
 have hll : (rest ++ bl t).length = rest.length + t.size := by rw [List.length_append, zh_]
 obtain ⟨bot1, eb⟩ := zq_ (fun _ _ _ => none) (zge_ k0 D j1) (show d + 1 ≤ k0 by omega)
 rw [eb]
 refine ziC_ hk D j1 bot1 hn hle (s0 := s) (h0 := h3) (l := rest ++ bl t) (by omega) hr2 ?_ d 0 s h3 (by omega) (by omega) rfl rfl (Chg.refl _ _) (kg.chg W3 (by omega)) H3 A3
 intro h4 i c4 kg4 H4 A4 hi
 subst hj1
 obtain ⟨u, u1, u2, u3⟩ := zgx_ A4 (i := i) (j := (rest ++ bl t).length) (by omega) (Nat.le_refl _) none (.inr ⟨rfl, rfl⟩)
 have hlen : r2.len = (rest ++ bl t).length := A4.row.1
 refine Wp.bnd rfl (Wp.bnd (zB_ H4.blk (zme_ (zZ_ _))) (Wp.bnd u1 (Wp.bnd u2.rdS ?_)))
 have n4 : n0 ≤ h4.next := Nat.le_trans hle (Nat.le_of_lt H4.lt)
 have er : ((rest ++ bl t).take (rest ++ bl t).length).drop i = zEc_ (rest ++ bl t) := by rw [List.take_length, hi]; rfl
 rw [er]
 obtain ⟨r5, h5, e5, A5, c5, f5⟩ := (Acc.nil encB 5 n0 h4).app (bytes := 1) (fun _ => rfl) (zEc_ (rest ++ bl t)) (by rw [zLg_]; simp; omega) (by omega) n4
 have ul : u.len = (zEc_ (rest ++ bl t)).length := by rw [u3, ← er, List.length_drop, List.take_length]
 rw [← ul] at e5
 refine Wp.bnd e5 ?_
 have k5 : zc_ h4 h5 := c5.wk fun x _ ⟨a, ha, _⟩ => by cases ha
 have H5 := H4.keeps k5
 obtain ⟨s6, H6⟩ := H5.setR r5
 have hr5 : ∀ a, r5.a = some a → a.block ≠ hb := fun a ha e => by
  rcases f5 a ha with f | f
  ·have := H4.lt; omega
  ·cases f
 refine Wp.bnd rfl (Wp.bnd s6 (Wp.of ⟨⟨⟨r5, H6, ?_, hr5⟩, hle⟩, ?_⟩))
 ·exact (A5.chg (Chg.set (S := fun x => x = hb) (.inr rfl)) fun a ha e => hr5 a ha e)
 ·refine W3.trans (c4.trans ((k5.keeps).trans (Chg.set (.inr hle))))
theorem zEz_ (k0 : Nat) (D : za_) (h : AHeap) : ∃ h' hb, zkp_ k0 D h = some (some ⟨hb, 0, none⟩, h') ∧ zc_ h h' ∧ h.next ≤ hb ∧ Hash h.next h' hb st0 [] 0 := by
 have first : zsk_ k0 D h = some (((st0.a.toNat : Int), (st0.b.toNat : Int), (st0.c.toNat : Int), (st0.d.toNat : Int), (st0.e.toNat : Int), (st0.f.toNat : Int), (st0.g.toNat : Int), (st0.h.toNat : Int)), (h.new (.cells [.int .u32 0, .int .u32 0, .int .u32 0, .int .u32 0, .int .u32 0, .int .u32 0, .int .u32 0, .int .u32 0] 139 true 0)).set h.next (.cells ((wl st0).map encU) 139 true 0)) := by
  simp only [zsk_]
  have g1 : (h.new (.cells [.int .u32 0, .int .u32 0, .int .u32 0, .int .u32 0, .int .u32 0, .int .u32 0, .int .u32 0, .int .u32 0] 139 true 0)).get h.next = some (.cells [.int .u32 0, .int .u32 0, .int .u32 0, .int .u32 0, .int .u32 0, .int .u32 0, .int .u32 0, .int .u32 0] 139 true 0) := by simp
  have s1 := zjp_ (sp := none) g1 rfl (show ((wl st0).map encU).length = 8 from rfl) rfl (by decide)
  refine bnd s1 (bnd (zA_ (zmb_ _ _ _) rfl) (bnd rfl rfl))
 simp only [zkp_]
 let h1 := (h.new (.cells [.int .u32 0, .int .u32 0, .int .u32 0, .int .u32 0, .int .u32 0, .int .u32 0, .int .u32 0, .int .u32 0] 139 true 0)).set h.next (.cells ((wl st0).map encU) 139 true 0)
 have k1 : zc_ h h1 := zc_.set (zc_.new h _) (Nat.le_refl _)
 have n1 : h1.next = h.next + 1 := by simp [h1]
 refine ⟨h1.new (.cells (zY_ (wl st0) ⟨none, 0, 0⟩ 0) 142 true 0), h1.next, bnd first rfl, k1.trans (zc_.new _ _), by omega, ⟨⟨⟨none, 0, 0⟩, ⟨by simp, by simp⟩, Acc.nil _ _ _ _, fun a ha => by cases ha⟩, by omega⟩⟩
theorem zXy_ (k0 : Nat) (D : za_) {n0 : Nat} {h : AHeap} {hb : Nat} {s : St} {rest : List UInt8} {long : Nat} (H : Hash n0 h hb s rest long) (hr : rest.length ≤ 140737488355000) :
  ∃ h' eb, zMg_ k0 D (some ⟨hb, 0, none⟩) h = some (some ⟨eb, 0, none⟩, h') ∧ zc_ h h' ∧ Hash h.next h' eb s rest long ∧ Hash n0 h' hb s rest long := by
 have H0 := H
 obtain ⟨⟨r, HS0, A0, hne⟩, hle⟩ := H
 simp only [zMg_]
 obtain ⟨r3, h3, e3, A3, c3, f3⟩ := (Acc.nil encB 5 h.next h).app (bytes := 1) (fun _ => rfl) rest (by simp; omega) (by omega) (Nat.le_refl _)
 have hlen : r.len = rest.length := A0.row.1
 rw [← hlen] at e3
 have k3 : zc_ h h3 := c3.wk fun x _ ⟨a, ha, _⟩ => by cases ha
 have H3 := HS0.keeps k3
 have tk : (zY_ (wl s) r (long : Int)).take 8 = (wl s).map encU := rfl
 have ldw : ∀ {g : AHeap}, HS g hb s r (long : Int) → ldA 8 ⟨hb, 0, none⟩ g = some ((wl s).map encU) := fun {g} Hg => by
  have := zxs_ (sp := none) Hg.blk (show 0 < 8 by decide) (by rw [zcf_ (zZ_ s)]; decide)
  rw [tk] at this; exact this
 have ldl : ∀ {g : AHeap}, HS g hb s r (long : Int) → ldI .i64 ⟨hb, 9, none⟩ g = some (long : Int) := fun {g} Hg => zp_ Hg.blk (zWk_ (zZ_ s))
 refine ⟨h3.new (.cells (zY_ (wl s) r3 (long : Int)) 142 true 0), h3.next, ?_, k3.trans (zc_.new _ _), ⟨⟨r3, ⟨by simp, by simp⟩, A3.keeps (zc_.new _ _), fun a ha => ?_⟩, k3.nx⟩, H0.keeps (k3.trans (zc_.new _ _))⟩
 ·refine bnd rfl (bnd (zB_ HS0.blk (zme_ (zZ_ s))) (bnd A0.row.rdS (bnd e3 (bnd rfl (bnd (ldw H3) ?_)))))
  refine gp (ssw1 ?_) (bnd rfl (bnd rfl (bnd (ldl H3) (gp (ssw1 ?_) rfl))))
  ·show (ldA 8 ⟨hb, 0, none⟩ h).bind _ = _
   rw [ldw HS0]; rfl
  ·show (ldI .i64 ⟨hb, 9, none⟩ h).bind _ = _
   rw [ldl HS0]; rfl
 ·have := (A3.lt a ha).1
  omega
theorem zbE_ {k0 : Nat} (D : za_) (j) (bot) {Q : ByteArray × AHeap → Prop} {n0 eb hb : Nat} {s : St} {rest : List UInt8} {long : Nat} (hrl : rest.length < 64) {h0 : AHeap}
  (hj : ∀ h t, zc_ h0 h → Lst encB 5 h0.next h t (128 :: List.replicate (zMb_ rest.length) 0) → Wp (j (some ⟨hb, 0, none⟩) (some ⟨eb, 0, none⟩) t h) Q) (H : Hash n0 h0 eb s rest long) :
  ∀ (d i : Nat) (t : Slc) (h : AHeap), i + d = zMb_ rest.length → zc_ h0 h → Lst encB 5 h0.next h t (128 :: List.replicate i 0) →
   Wp (zi_ bot (d + 1) (zyd_ k0 D j) (some ⟨hb, 0, none⟩) (some ⟨eb, 0, none⟩) t h) Q := fun d => by
 induction d with
 | zero =>
  intro i t h hi kp L
  rw [zg_]; simp only [zyd_]
  obtain ⟨r, H1, A1, _⟩ := (H.keeps kp).ok
  refine Wp.bnd rfl (Wp.bnd (zB_ H1.blk (zme_ (zZ_ s))) ?_)
  have hl : r.len = rest.length := A1.row.1
  have tl := L.len
  rw [List.length_cons, List.length_replicate] at tl
  have e : Int.tmod (IntKind.wrap .i64 ((r.len : Int) + (t.len : Int))) 64 = 56 := by
   rw [hl, tl, w64 _ (by unfold zMb_ at hi; omega), Int.tmod_eq_emod_of_nonneg (by omega)]
   unfold zMb_ at hi; omega
  rw [e]
  refine Wp.ifn (by simp) ?_
  have : i = zMb_ rest.length := by omega
  subst this
  exact hj h t kp L
 | succ d ih =>
  intro i t h hi kp L
  rw [zg_]; simp only [zyd_]
  obtain ⟨r, H1, A1, _⟩ := (H.keeps kp).ok
  refine Wp.bnd rfl (Wp.bnd (zB_ H1.blk (zme_ (zZ_ s))) ?_)
  have hl : r.len = rest.length := A1.row.1
  have tl := L.len
  rw [List.length_cons, List.length_replicate] at tl
  have e : Int.tmod (IntKind.wrap .i64 ((r.len : Int) + (t.len : Int))) 64 ≠ 56 := by
   rw [hl, tl, w64 _ (by unfold zMb_ at hi; omega), Int.tmod_eq_emod_of_nonneg (by omega)]
   unfold zMb_ at hi; omega
  refine Wp.ifp (by simpa using e) ?_
  refine Wp.bnd zis_ ?_
  have k1 : zc_ h (h.new (.cells [.int .u8 0] 5 true 0)) := zc_.new h _
  obtain ⟨t', h', e1, L', c1⟩ := (L.chg k1 fun _ _ f => f).app (bytes := 1) (fun _ => rfl) [0] (by simp) (by simp; unfold zMb_ at hi; omega) (by omega) (Nat.le_trans kp.nx k1.nx)
  refine Wp.bnd e1 ?_
  refine ih (i + 1) t' h' (by omega) ?_ ?_
  ·exact Chg.beh (kp.trans k1) c1 fun x hx e => by have e : h0.next ≤ x := e; omega
  ·rw [List.replicate_succ']; simpa using L'
theorem zFp_ (n : Nat) : (be64 n).length = 8 := rfl
theorem zAB_ (n : Nat) : ∀ j, j < 8 → (be64 n)[j]? = some (b8 (n / 2 ^ (56 - 8 * j)))
 | 0, _ => rfl
 | 1, _ => rfl
 | 2, _ => rfl
 | 3, _ => rfl
 | 4, _ => rfl
 | 5, _ => rfl
 | 6, _ => rfl
 | 7, _ => by show some (b8 n) = some (b8 (n / 2 ^ 0)); rw [Nat.pow_zero, Nat.div_one]
 | n + 8, h => by omega
theorem zqo_ (n : Nat) : IntKind.wrap .u8 (n : Int) = ((b8 n).toNat : Int) := by
 rw [Go.IntKind.wrap_u8]
 unfold b8
 rw [UInt8.toNat_ofNat']
 omega
theorem zTD_ {k0 : Nat} (D : za_) (j) (bot) {Q : ByteArray × AHeap → Prop} {e : Option Addr} {base : List UInt8} (hbl : base.length ≤ 1000) (c : Nat) {h0 : AHeap}
  (hj : ∀ h t, zc_ h0 h → Lst encB 5 h0.next h t (base ++ be64 c) → Wp (j e t h) Q) :
  ∀ (d i : Nat) (t : Slc) (h : AHeap), i + d = 8 → zc_ h0 h → Lst encB 5 h0.next h t (base ++ (be64 c).take i) →
   Wp (zi_ bot (d + 1) (zzd_ k0 D j) e t (c : Int) (56 - 8 * (i : Int)) h) Q := fun d => by
 induction d with
 | zero =>
  intro i t h hi kp L
  rw [zg_]; simp only [zzd_]
  obtain rfl : i = 8 := by omega
  have e8 : (be64 c).take 8 = be64 c := rfl
  rw [e8] at L
  exact Wp.ifn (by simp) (hj h t kp L)
 | succ d ih =>
  intro i t h hi kp L
  rw [zg_]; simp only [zzd_]
  refine Wp.ifp (by simp; omega) ?_
  refine Wp.ifp (by omega) ?_
  have es : (56 - 8 * (i : Int)).toNat = 56 - 8 * i := by omega
  have em : min (56 - 8 * i) (IntKind.bits .u64) = 56 - 8 * i := Nat.min_eq_left (by show 56 - 8 * i ≤ 64; omega)
  have ep : (2 : Int) ^ (56 - 8 * i) = ((2 ^ (56 - 8 * i) : Nat) : Int) := by simp
  have ef : Int.fdiv (c : Int) ((2 ^ (56 - 8 * i) : Nat) : Int) = ((c / 2 ^ (56 - 8 * i) : Nat) : Int) := by
   rw [Int.fdiv_eq_ediv_of_nonneg _ (Int.natCast_nonneg _)]; simp
  rw [es, em, ep, ef, zqo_]
  refine Wp.bnd zis_ ?_
  have k1 : zc_ h (h.new (.cells [.int .u8 ((b8 (c / 2 ^ (56 - 8 * i))).toNat : Int)] 5 true 0)) := zc_.new h _
  obtain ⟨t', h', e1, L', c1⟩ := (L.chg k1 fun _ _ f => f).app (bytes := 1) (fun _ => rfl) [b8 (c / 2 ^ (56 - 8 * i))] (by simp) (by rw [List.length_append, List.length_take, zFp_]; simp; omega) (by omega) (Nat.le_trans kp.nx k1.nx)
  refine Wp.bnd e1 ?_
  have ew : IntKind.wrap .i64 (56 - 8 * (i : Int) - 8) = 56 - 8 * ((i + 1 : Nat) : Int) := by rw [w64 _ (by omega)]; omega
  rw [ew]
  refine ih (i + 1) t' h' (by omega) ?_ ?_
  ·exact Chg.beh (kp.trans k1) c1 fun x hx e => by have e : h0.next ≤ x := e; omega
  ·rw [List.take_add_one, zAB_ c i (by omega)]
   simpa using L'
theorem zez_ (x : UInt32) : [Value.int .u8 (IntKind.wrap .u8 (Int.fdiv (x.toNat : Int) 16777216)), .int .u8 (IntKind.wrap .u8 (Int.fdiv (x.toNat : Int) 65536)), .int .u8 (IntKind.wrap .u8 (Int.fdiv (x.toNat : Int) 256)), .int .u8 (IntKind.wrap .u8 (x.toNat : Int))] = (zCc_ x).map encB := by
 have e1 : Int.fdiv (x.toNat : Int) 16777216 = ((x.toNat / 16777216 : Nat) : Int) := by rw [Int.fdiv_eq_ediv_of_nonneg _ (by omega)]; simp
 have e2 : Int.fdiv (x.toNat : Int) 65536 = ((x.toNat / 65536 : Nat) : Int) := by rw [Int.fdiv_eq_ediv_of_nonneg _ (by omega)]; simp
 have e3 : Int.fdiv (x.toNat : Int) 256 = ((x.toNat / 256 : Nat) : Int) := by rw [Int.fdiv_eq_ediv_of_nonneg _ (by omega)]; simp
 rw [e1, e2, e3, zqo_, zqo_, zqo_, zqo_]; rfl
theorem zmB_ (s : St) : zkj_ s = ((wl s).map zCc_).flatten := by simp [zkj_, wl]
theorem zSD_ {k0 : Nat} (D : za_) (j) (bot) {Q : ByteArray × AHeap → Prop} (s : St) {h0 : AHeap}
  (hj : ∀ h t, zc_ h0 h → Acc encB 5 h0.next h t (zkj_ s) → Wp (j t h) Q) :
  ∀ (d i : Nat) (t : Slc) (h : AHeap), i + d = 8 → zc_ h0 h → Acc encB 5 h0.next h t (((wl s).take i).map zCc_).flatten →
   Wp (zi_ bot (d + 1) (zFd_ k0 D j) t ((s.a.toNat : Int), (s.b.toNat : Int), (s.c.toNat : Int), (s.d.toNat : Int), (s.e.toNat : Int), (s.f.toNat : Int), (s.g.toNat : Int), (s.h.toNat : Int)) (i : Int) h) Q := fun d => by
 induction d with
 | zero =>
  intro i t h hi kp A
  rw [zg_]; simp only [zFd_]
  obtain rfl : i = 8 := by omega
  refine Wp.ifn (by simp) (hj h t kp ?_)
  rw [zmB_]; exact A
 | succ d ih =>
  intro i t h hi kp A
  rw [zg_]; simp only [zFd_]
  refine Wp.ifp (by simp; omega) ?_
  refine Wp.ifp (by omega) ?_
  obtain ⟨x, hx⟩ := zv_ (l := wl s) (i := i) (by rw [zZ_]; omega)
  have hlx : ((wl s).map encU)[((i : Int)).toNat * 1]? = some (.int .u32 (x.toNat : Int)) := by
   rw [Int.toNat_natCast, Nat.mul_one, List.getElem?_map, hx]; rfl
  refine Wp.bnd hlx (Wp.bnd rfl ?_)
  rw [zez_]
  have k1 : zc_ h (h.new (.cells ((zCc_ x).map encB) 5 true 0)) := zc_.new h _
  have hr := zai_ (h := h.new (.cells ((zCc_ x).map encB) 5 true 0)) (b := h.next) (c := (zCc_ x).map encB) (e := 5) (r := true) (fz := 0) (by simp)
  have hr' : Gx.rdS 1 (⟨some ⟨h.next, 0, some 0⟩, 4, 4⟩ : Slc) (h.new (.cells ((zCc_ x).map encB) 5 true 0)) = some ((zCc_ x).map encB) := hr
  refine Wp.bnd hr' ?_
  have hlen : (((wl s).take i).map zCc_).flatten.length = 4 * i := by
   have : ∀ l : List UInt32, (l.map zCc_).flatten.length = 4 * l.length := fun l => by
    induction l with
    | nil => rfl
    | cons y l ih => rw [List.map_cons, List.flatten_cons, List.length_append, ih]; simp [zCc_]; omega
   rw [this, List.length_take, zZ_]; omega
  obtain ⟨t', h', e1, A', c1, _⟩ := (A.keeps k1).app (bytes := 1) (fun _ => rfl) (zCc_ x) (by rw [hlen]; simp [zCc_]; omega) (by omega) (Nat.le_trans kp.nx k1.nx)
  refine Wp.bnd e1 ?_
  rw [Gx.w1 (by omega)]
  refine ih (i + 1) t' h' (by omega) ?_ ?_
  ·exact Chg.beh (kp.trans k1) c1 fun y hy ⟨a, ha, e⟩ => by have := (A.lt a ha).2; omega
  ·rw [List.take_add_one, hx]
   simpa using A'
theorem zIz_ {k0 : Nat} (hk : 200 ≤ k0) (D : za_) {n0 : Nat} {h : AHeap} {hb : Nat} {s : St} {rest : List UInt8} {long : Nat} (H : Hash n0 h hb s rest long) (hrl : rest.length < 64) (hlong : long ≤ 140737488351300) (kg : KG 0 h) :
  Wp (zth_ k0 D (some ⟨hb, 0, none⟩) h) fun q => q.1 = ⟨⟨zkj_ (zYb_ s (rest ++ (128 :: List.replicate (zMb_ rest.length) 0 ++ be64 (long * 8))))⟩⟩ ∧ zc_ h q.2 := by
 simp only [zth_]
 obtain ⟨h1, eb, e1, k1, F1, H1⟩ := zXy_ k0 D H (by omega)
 refine Wp.bnd e1 ?_
 let h2 := h1.new (.cells [.int .u8 128] 5 true 0)
 have k2 : zc_ h1 h2 := zc_.new h1 _
 have F2 := F1.keeps k2
 have L2 : Lst encB 5 h1.next h2 (⟨some ⟨h1.next, 0, some 0⟩, 1, 1⟩ : Slc) [128] := ⟨by simp, h1.next, some 0, rfl, by simp [h2, outB, encB], Nat.le_refl _, by simp [h2], .inl rfl⟩
 refine Wp.jn fun j2 hj2 => ?_
 unfold zLk_
 have hz : zMb_ rest.length < 64 := Nat.mod_lt _ (by decide)
 obtain ⟨bot2, b2⟩ := zq_ (fun _ _ _ _ => none) (zyd_ k0 D j2) (show zMb_ rest.length + 1 ≤ k0 by omega)
 rw [b2]
 refine zbE_ (k0 := k0) D j2 bot2 (n0 := h.next) (long := long) hrl (h0 := h1) ?_ F1 (zMb_ rest.length) 0 _ h2 (by omega) k2 L2
 intro h3 t3 k3 L3
 subst hj2
 dsimp only
 obtain ⟨r, HS3, _, _⟩ := (H1.keeps k3).ok
 refine Wp.bnd rfl (Wp.bnd (zp_ HS3.blk (zWk_ (zZ_ s))) ?_)
 refine Wp.jn fun j1 hj1 => ?_
 unfold zKk_
 obtain ⟨bot1, b1⟩ := zq_ (fun _ _ _ _ _ => none) (zzd_ k0 D j1) (show 8 + 1 ≤ k0 by omega)
 rw [b1]
 have ec : IntKind.wrap .u64 (IntKind.wrap .u64 (long : Int) * 8) = ((long * 8 : Nat) : Int) := by
  rw [zmr_ (long : Int) (by omega) (by omega), zmr_ _ (by omega) (by omega)]; omega
 rw [ec]
 have hbase : (128 :: List.replicate (zMb_ rest.length) (0 : UInt8)).length ≤ 1000 := by simp; omega
 have L3' : Lst encB 5 h1.next h3 t3 (128 :: List.replicate (zMb_ rest.length) 0 ++ (be64 (long * 8)).take 0) := by simpa using L3
 have step := zTD_ (k0 := k0) D j1 bot1 (Q := fun q => q.1 = ⟨⟨zkj_ (zYb_ s (rest ++ (128 :: List.replicate (zMb_ rest.length) 0 ++ be64 (long * 8))))⟩⟩ ∧ zc_ h q.2) (e := some ⟨eb, 0, none⟩) (base := 128 :: List.replicate (zMb_ rest.length) 0) hbase (long * 8) (h0 := h1) ?_ 8 0 t3 h3 (by omega) k3 L3'
 ·exact step
 intro h4 t4 k4 L4
 subst hj1
 dsimp only
 obtain ⟨tb, sp, rfl, g4, _, _, _⟩ := L4.st
 have bo := zud_ (h := h4) (b := tb) (sp := sp) (cap := (128 :: List.replicate (zMb_ rest.length) 0 ++ be64 (long * 8)).length) (l := 128 :: List.replicate (zMb_ rest.length) 0 ++ be64 (long * 8)) (e := 5) (r := true) (fz := 0) g4
 refine Wp.bnd bo ?_
 have F4 := F1.keeps k4
 have tl : (128 :: List.replicate (zMb_ rest.length) 0 ++ be64 (long * 8)).length ≤ 100 := by rw [List.length_append, zFp_]; simp; omega
 have tz : (⟨⟨128 :: List.replicate (zMb_ rest.length) 0 ++ be64 (long * 8)⟩⟩ : ByteArray).size ≤ 100 := by rw [zXb_]; exact tl
 refine Wp.call (zbe_ (k0 := k0) (by omega) D F4 (kg.chg (k1.trans k4) fun f => f) (by have := kg.lt; omega) ⟨⟨128 :: List.replicate (zMb_ rest.length) 0 ++ be64 (long * 8)⟩⟩ (by omega) (by omega) (by omega)) fun q ⟨q1, q2⟩ => ?_
 obtain ⟨u5, hh5⟩ := q
 simp only at q1 q2 ⊢
 obtain ⟨r5, HS5, _, _⟩ := q1.ok
 refine Wp.jn fun j0 hj0 => ?_
 have tk : ∀ (u : St) (r : Slc) (l : Int), (zY_ (wl u) r l).take 8 = (wl u).map encU := fun u r l => rfl
 have ld5 := zxs_ (sp := none) HS5.blk (show 0 < 8 by decide) (by rw [zcf_ (zZ_ _)]; decide)
 rw [tk] at ld5
 refine Wp.bnd rfl (Wp.bnd ld5 (Wp.bnd rfl ?_))
 unfold zjk_
 obtain ⟨bot0, b0⟩ := zq_ (fun _ _ _ _ => none) (zFd_ k0 D j0) (show 8 + 1 ≤ k0 by omega)
 rw [b0]
 have k5 : zc_ h hh5 := Chg.beh (k1.trans k4) q2 fun x hx e => by have e : h.next ≤ x := e; omega
 refine zSD_ (k0 := k0) D j0 bot0 (zYb_ s (rest ++ bl ⟨⟨128 :: List.replicate (zMb_ rest.length) 0 ++ be64 (long * 8)⟩⟩)) (h0 := hh5) ?_ 8 0 ⟨none, 0, 0⟩ hh5 (by omega) (Chg.refl _ _) (Acc.nil _ _ _ _)
 intro h6 t6 k6 A6
 subst hj0
 dsimp only
 rcases A6.st with ⟨_, e⟩ | ⟨b, g⟩
 ·simp [zkj_, zCc_] at e
 ·have hg := g.s
  subst hg
  have bo := zud_ (h := h6) (b := b) (sp := some 2) (cap := (zkj_ (zYb_ s (rest ++ bl ⟨⟨128 :: List.replicate (zMb_ rest.length) 0 ++ be64 (long * 8)⟩⟩))).length) (l := zkj_ (zYb_ s (rest ++ bl ⟨⟨128 :: List.replicate (zMb_ rest.length) 0 ++ be64 (long * 8)⟩⟩))) (e := 5) (r := true) (fz := 0) g.blk
  exact Wp.bnd bo (Wp.of ⟨rfl, k5.trans k6⟩)
def catL (xs : List ByteArray) : List UInt8 := (xs.map bl).flatten
theorem zlA_ (n : Nat) : zMb_ (n % 64) = zMb_ n := by unfold zMb_; rw [Nat.mod_mod]
theorem zgA_ {xs : List ByteArray} {i : Nat} {x : ByteArray} (hx : xs[i]? = some x) : catL (xs.take (i + 1)) = catL (xs.take i) ++ bl x := by
 unfold catL
 rw [List.take_add_one, hx]
 simp
theorem zrC_ (xs : List ByteArray) (i : Nat) : (catL (xs.take i)).length ≤ (catL xs).length := by
 have : catL xs = catL (xs.take i) ++ catL (xs.drop i) := by
  unfold catL
  rw [← List.flatten_append, ← List.map_append, List.take_append_drop]
 rw [this, List.length_append]; omega
theorem sum_spec {k0 : Nat} (hk : 200 ≤ k0) (D : za_) {h : AHeap} {y : Slc} {xs : List ByteArray} (kg : KG 0 h) (R : Row encS h y xs) (hx : (catL xs).length ≤ 140737488351300) (hkx : (catL xs).length < 64 * k0) (hxl : xs.length < k0) (hxl2 : xs.length < 9223372036854775807) :
  Wp (zNe_ k0 D y h) fun q => q.1 = ⟨⟨zKi_ (catL xs)⟩⟩ ∧ zc_ h q.2 := by
 simp only [zNe_]
 obtain ⟨h1, hb, e1, k1, hle, H1⟩ := zEz_ k0 D h
 refine Wp.bnd e1 ?_
 refine Wp.jn fun j hj => ?_
 unfold zKq_
 obtain ⟨bot, b⟩ := zq_ (fun _ _ _ _ _ => none) (zzg_ k0 D j) (show xs.length + 1 ≤ k0 by omega)
 rw [b, R.1]
 have H1' : Hash h.next h1 hb st0 [] 0 := H1
 have main : ∀ (Q : ByteArray × AHeap → Prop), (∀ g, Chg (fun x => h.next ≤ x) h1 g → Hash h.next g hb (zYb_ st0 (catL xs)) (zEc_ (catL xs)) (catL xs).length → Wp (j (some ⟨hb, 0, none⟩) g) Q) →
   ∀ (d i : Nat) (g : AHeap), i + d = xs.length → Chg (fun x => h.next ≤ x) h1 g → Hash h.next g hb (zYb_ st0 (catL (xs.take i))) (zEc_ (catL (xs.take i))) (catL (xs.take i)).length →
    Wp (zi_ bot (d + 1) (zzg_ k0 D j) (some ⟨hb, 0, none⟩) y (xs.length : Int) (i : Int) g) Q := fun Q hQ d => by
  induction d with
  | zero =>
   intro i g hi c H
   rw [zg_]; simp only [zzg_]
   obtain rfl : i = xs.length := by omega
   rw [List.take_length] at H
   exact Wp.ifn (by simp) (hQ g c H)
  | succ d ih =>
   intro i g hi c H
   rw [zg_]; simp only [zzg_]
   have kp : zc_ h g := Chg.beh k1 c fun x hx e => by have e : h.next ≤ x := e; omega
   refine Wp.ifp (by simp; omega) ?_
   obtain ⟨x, hxi⟩ := zv_ (l := xs) (i := i) (by omega)
   obtain ⟨q, i1, i2⟩ := (R.keeps kp).ldS hxi
   refine Wp.bnd i1 (Wp.bnd i2 ?_)
   have hc := zgA_ hxi
   have hle' := zrC_ xs (i + 1)
   rw [hc, List.length_append, zh_] at hle'
   have hrl := zLg_ (catL (xs.take i))
   refine Wp.call (zbe_ (k0 := k0) (by omega) D H (kg.chg kp fun f => f) (by have := kg.lt; omega) x (by omega) (by omega) (by omega)) fun q ⟨q1, q2⟩ => ?_
   rw [Gx.w1 (by omega)]
   refine ih (i + 1) q.2 (by omega) (c.trans q2) ?_
   rw [hc, List.length_append, zh_, ← ztm_ (bl x) _ st0 (catL (xs.take i)) (Nat.le_refl _), ← zCy_]
   exact q1
 refine main _ ?_ xs.length 0 h1 (by omega) (Chg.refl _ _) ?_
 ·intro g c H
  subst hj
  dsimp only
  have kp : zc_ h g := Chg.beh k1 c fun x hx e => by have e : h.next ≤ x := e; omega
  refine Wp.call (zIz_ hk D H (by rw [zLg_]; omega) (by omega) (kg.chg kp fun f => f)) fun q ⟨q1, q2⟩ => ?_
  refine Wp.of ⟨?_, kp.trans q2⟩
  rw [q1, zLg_, zlA_, ztm_ _ _ _ _ (Nat.le_refl _)]
  rfl
 ·have e0 : catL (xs.take 0) = [] := rfl
  rw [e0, zEo_ (by simp), zCs_ (by simp)]
  exact H1'
def fixL (n : Nat) : Nat → List UInt8
 | 0 => []
 | k + 1 => UInt8.ofNat (n / 256 ^ k) :: fixL n k
theorem fixL_length (n : Nat) : ∀ k, (fixL n k).length = k
 | 0 => rfl
 | k + 1 => by simp [fixL, fixL_length n k]
theorem zVt_ (n : Nat) : ∀ (k i : Nat), i < k → (fixL n k)[i]? = some (UInt8.ofNat (n / 256 ^ (k - 1 - i)))
 | 0, i, h => by omega
 | k + 1, 0, _ => by simp [fixL]
 | k + 1, i + 1, h => by
  simp only [fixL, List.getElem?_cons_succ]
  rw [zVt_ n k i (by omega)]
  congr 4; omega
def numL (a : Nat) : List UInt8 → Nat
 | [] => a
 | c :: l => numL (a * 256 + c.toNat) l
theorem zuu_ (l : List UInt8) : ∀ (a : Nat), numL a l = a * 256 ^ l.length + numL 0 l := by
 induction l with
 | nil => intro a; simp [numL]
 | cons c l ih =>
  intro a
  simp only [numL, List.length_cons]
  rw [ih (a * 256 + c.toNat), ih (0 * 256 + c.toNat)]
  simp only [Nat.pow_succ, Nat.add_mul, Nat.zero_mul, Nat.zero_add]
  have : a * 256 * 256 ^ l.length = a * (256 ^ l.length * 256) := by rw [Nat.mul_assoc, Nat.mul_comm 256]
  omega
theorem numL_lt (l : List UInt8) : numL 0 l < 256 ^ l.length := by
 induction l with
 | nil => simp [numL]
 | cons c l ih =>
  simp only [numL, List.length_cons, Nat.zero_mul, Nat.zero_add]
  rw [zuu_]
  have hc : c.toNat < 256 := UInt8.toNat_lt c
  have : c.toNat * 256 ^ l.length + 256 ^ l.length ≤ 256 * 256 ^ l.length := by
   rw [← Nat.succ_mul]; exact Nat.mul_le_mul_right _ hc
  rw [Nat.pow_succ]; omega
theorem toNat_ofNat (n : Nat) : (UInt8.ofNat n).toNat = n % 256 := by simp
theorem num_fix (n : Nat) : ∀ k, numL 0 (fixL n k) = n % 256 ^ k
 | 0 => by simp [fixL, numL, Nat.mod_one]
 | k + 1 => by
  simp only [fixL, numL, Nat.zero_mul, Nat.zero_add]
  rw [zuu_, num_fix n k, fixL_length, toNat_ofNat]
  rw [Nat.pow_succ, Nat.mod_mul, Nat.mul_comm, Nat.add_comm]
theorem zxA_ (n : Nat) : UInt8.ofNat (n % 256) = UInt8.ofNat n := by
 apply UInt8.toNat_inj.1
 rw [toNat_ofNat, toNat_ofNat]; omega
theorem zao_ {h : AHeap} {b o : Nat} {sp : Option Nat} {c : List Value} {e : TypeId} {r : Bool} {fz : Nat} {k : IntKind} {x : Int} (hb : h.get b = some (.cells c e r fz)) (hc : c[o]? = some (.int k x)) : ldI k ⟨b, o, sp⟩ h = some x := by
 simp [ldI, AHeap.rd1, hb, hc, decI]
theorem zzb_ {h : AHeap} {b o : Nat} {sp : Option Nat} {c : List Value} {e : TypeId} {r : Bool} {fz : Nat} {x : ByteArray} (hb : h.get b = some (.cells c e r fz)) (hc : c[o]? = some (.string x)) : ldS ⟨b, o, sp⟩ h = some x := by
 simp [ldS, AHeap.rd1, hb, hc, decS]
theorem wu8 (m : Nat) : IntKind.wrap .u8 (m : Int) = ((m % 256 : Nat) : Int) := by rw [Go.IntKind.wrap_u8]; omega
def fixP (n k i : Nat) : List UInt8 := (List.range k).map fun j => if k ≤ j + i then UInt8.ofNat (n / 256 ^ (k - 1 - j)) else 0
theorem zrg_ (n k i : Nat) : (fixP n k i).length = k := by simp [fixP]
theorem zIA_ (n k : Nat) : fixP n k 0 = List.replicate k 0 := by
 apply List.ext_getElem?
 intro j
 simp only [fixP, List.getElem?_map, List.getElem?_replicate]
 by_cases hj : j < k
 ·simp [hj]; omega
 ·simp [hj]
theorem zqB_ (n k : Nat) : fixP n k k = fixL n k := by
 apply List.ext_getElem?
 intro j
 by_cases hj : j < k
 ·rw [zVt_ n k j hj]; simp [fixP, hj]
 ·rw [List.getElem?_eq_none (by rw [zrg_]; omega), List.getElem?_eq_none (by rw [fixL_length]; omega)]
theorem zdC_ {n k i : Nat} (hi : i < k) : (fixP n k i).set (k - 1 - i) (UInt8.ofNat (n / 256 ^ i)) = fixP n k (i + 1) := by
 apply List.ext_getElem?
 intro j
 by_cases hj : j < k
 ·rw [List.getElem?_set]
  by_cases he : k - 1 - i = j
  ·rw [if_pos he, if_pos (by rw [zrg_]; omega)]
   have : i = k - 1 - j := by omega
   subst this
   simp [fixP, hj]
   omega
  ·rw [if_neg he]
   simp only [fixP, List.getElem?_map, List.getElem?_range hj, Option.map_some, Option.some.injEq]
   by_cases h1 : k ≤ j + i
   ·rw [if_pos h1, if_pos (by omega)]
   ·rw [if_neg h1, if_neg (by omega)]
 ·rw [List.getElem?_eq_none (by rw [List.length_set, zrg_]; omega), List.getElem?_eq_none (by rw [zrg_]; omega)]
abbrev nfT := Int → Int → Slc → Int → Int → AHeap → Option ((ByteArray × Int) × AHeap)
theorem zGz_ (K : Nat) (D : za_) (j) (bot : nfT) {n k : Nat} (hn : n < 9223372036854775808) (hk : k ≤ 7) {b cap : Nat} {sp : Option Nat} {e : TypeId} : ∀ (m i : Nat) (h : AHeap), i + m = k → h.get b = some (.cells ((fixP n k i).map encB) e true 0) →
  zi_ bot (m + 1) (zef_ K D j) (n : Int) (k : Int) (⟨some ⟨b, 0, sp⟩, k, cap⟩ : Slc) (k : Int) (i : Int) h = j (n : Int) (k : Int) (⟨some ⟨b, 0, sp⟩, k, cap⟩ : Slc) (h.set b (.cells ((fixL n k).map encB) e true 0))
 | 0, i, h, hi, hb => by
  obtain rfl : i = k := by omega
  rw [zqB_] at hb
  rw [zg_]; simp only [zef_]
  refine ifn (by simp) ?_
  rw [zeB_ hb]
 | m + 1, i, h, hi, hb => by
  rw [zg_]; simp only [zef_]
  refine ifp (by simp; omega) ?_
  have e1 : IntKind.wrap .i64 (8 * (i : Int)) = ((8 * i : Nat) : Int) := by rw [w64 _ (by omega)]; omega
  have e2 : IntKind.wrap .i64 (IntKind.wrap .i64 ((k : Int) - 1) - (i : Int)) = ((k - 1 - i : Nat) : Int) := by rw [w64 ((k : Int) - 1) (by omega), w64 _ (by omega)]; omega
  rw [e1, e2]
  refine ifp (by omega) ?_
  refine bnd (zgu_ (by omega)) ?_
  rw [zlC_ n (8 * i) (by omega), wu8]
  refine bnd (zfD_ hb (by rw [zrg_]; omega) (Nat.mod_lt _ (by decide))) ?_
  rw [w1 (by omega), zxA_, Nat.pow_mul, show (2 : Nat) ^ 8 = 256 from rfl, zdC_ (by omega)]
  refine (zGz_ K D j bot hn hk (e := e) m (i + 1) (h.set b (.cells ((fixP n k (i + 1)).map encB) e true 0)) (by omega) (by simp)).trans ?_
  rw [zXC_]
theorem nfix_spec {kf : Nat} (hkf : 9 ≤ kf) (D : za_) (n k : Nat) (h : AHeap) (hk1 : 1 ≤ k) (hk7 : k ≤ 7) (hn : n < 9223372036854775808) :
  ∃ h', zik_ kf D (n : Int) (k : Int) h = some ((if n < 256 ^ k then ((⟨⟨fixL n k⟩⟩ : ByteArray), 0) else ((⟨#[]⟩ : ByteArray), 1)), h') ∧ zc_ h h' := by
 simp only [zik_]
 let H := (h.new (.cells ((List.replicate k (0 : UInt8)).map encB) 5 true 0)).set h.next (.cells ((fixL n k).map encB) 5 true 0)
 refine ⟨H, ?_, Chg.beh (zc_.new h _) (Chg.set (S := fun x => x = h.next) (.inr rfl)) (fun x hx e => by have : x = h.next := e; omega)⟩
 refine jn ?_
 refine ifn (by simp <;> omega) ?_
 refine ifn (by simp <;> omega) ?_
 refine ifn (by simp <;> omega) ?_
 refine ifp (by omega) ?_
 refine jn ?_
 rw [Int.toNat_natCast, zOp_]
 unfold zJn_
 have hb : (h.new (.cells ((List.replicate k (0 : UInt8)).map encB) 5 true 0)).get h.next = some (.cells ((fixP n k 0).map encB) 5 true 0) := by rw [zIA_]; simp
 generalize hj : (fun (n7 : Int) (bytes8 : Int) (b9 : Slc) (h10 : AHeap) => zm_ _ _) = j
 obtain ⟨bot', e2⟩ := zq_ (α := nfT) (fun _ _ _ _ _ _ => none) (zef_ kf D j) (show k + 1 ≤ kf by omega)
 rw [e2]
 refine (zGz_ kf D j bot' hn hk7 k 0 _ (by omega) hb).trans ?_
 subst hj
 refine jn ?_
 refine ifp (by simp; omega) ?_
 have e1 : IntKind.wrap .i64 (8 * (k : Int)) = ((8 * k : Nat) : Int) := by rw [w64 _ (by omega)]; omega
 rw [e1]
 refine ifp (by omega) ?_
 rw [zlC_ n (8 * k) (by omega), Nat.pow_mul, show (2 : Nat) ^ 8 = 256 from rfl]
 by_cases hlt : n < 256 ^ k
 ·rw [if_pos hlt]
  refine ifn (by simp [Nat.div_eq_of_lt hlt]) ?_
  have hg : H.get h.next = some (.cells ((fixL n k).map encB) 5 true 0) := by simp [H]
  have := zud_ (cap := k) (sp := some 0) hg
  rw [fixL_length] at this
  exact bnd this rfl
 ·rw [if_neg hlt]
  refine ifp ?_ rfl
  have : 0 < n / 256 ^ k := Nat.div_pos (by omega) (Nat.pow_pos (by decide))
  exact decide_eq_true (by omega)
theorem zMA_ {a i n : Nat} (h : a < 256 ^ i) (hi : i < n) (hn : n ≤ 7) : a * 256 + 256 ≤ 72057594037927936 := by
 have h1 : 256 ^ i ≤ 256 ^ 6 := Nat.pow_le_pow_right (by decide) (by omega)
 have : (256 : Nat) ^ 6 = 281474976710656 := by decide
 omega
theorem zwz_ {a i : Nat} {c : UInt8} (h : a < 256 ^ i) : a * 256 + c.toNat < 256 ^ (i + 1) := by
 have hc : c.toNat < 256 := UInt8.toNat_lt c
 rw [Nat.pow_succ]; omega
theorem ba_app (a b : List UInt8) : (⟨⟨a⟩⟩ : ByteArray) ++ (⟨⟨b⟩⟩ : ByteArray) = ⟨⟨a ++ b⟩⟩ := by
 apply zSf_
 simp [bl]
end Gg.B
namespace Gg
open Go Gx
def knB (c : Nat) : Bool := decide (c = 1 ∨ c = 2 ∨ c = 17 ∨ c = 18)
def zag_ (l : List UInt8) : Option (Nat × Nat × List UInt8) :=
 match l with
 | [] => none
 | c :: t => match pS 65536 t with
  | some (n, r) => if knB c.toNat = true then some (c.toNat, n, r) else none
  | none => none
theorem zQk_ (k : Nat) (D : za_) (n : Int) (h : AHeap) : zVf_ k D n h = some (decide (n = 1 ∨ n = 2), h) := by
 simp only [zVf_]
 by_cases c : n = 1
 ·rw [if_pos (by simpa using c)]; simp [c]
 ·rw [if_neg (by simpa using c)]
  congr 2
  by_cases d : n = 2
  ·simp [d]
  ·rw [decide_eq_false (fun q => q.elim c d)]; simpa using d
theorem zGC_ : ∀ a : Fin 256, decide (Go.bits .andNot .i64 (a.val : Int) 16 = 1 ∨ Go.bits .andNot .i64 (a.val : Int) 16 = 2) = knB a.val := by decide +kernel
theorem zpv_ {most : Nat} {l : List UInt8} {n : Nat} {r : List UInt8} (h : pS most l = some (n, r)) : n ≤ most ∧ ∃ m, m ≤ l.length ∧ r = l.drop m := by
 unfold pS at h
 cases hq : lebQ 9 true l with
 | none => rw [hq] at h; cases h
 | some p =>
  rw [hq] at h
  simp only [Option.bind_some] at h
  split at h
  ·cases h
  ·rename_i c
   cases h
   obtain ⟨m, h1, h2⟩ := zPv_ (n := n) (r := r) hq
   exact ⟨by omega, m, h1, h2⟩
section
variable {k : Nat} {h : AHeap} {s : ByteArray}
theorem zEA_ (D : za_) (hk : 20 ≤ k) (hs : s.size ≤ 1000000) :
  Gx.Wp (zkk_ k D s h) fun z => zc_ h z.2 ∧ match zag_ (bl s) with
   | some (c, n, r) => z.1 = ((c : Int), (n : Int), ⟨⟨r⟩⟩, 0)
   | none => z.1 = (0, 0, ⟨#[]⟩, 130) := by
 simp only [zkk_, zDf_]
 obtain ⟨h1, e1⟩ : ∃ h1, h1 = h.new (.cells [.string s, .int .i64 0] 154 true 0) := ⟨_, rfl⟩
 have k1 : zc_ h h1 := e1 ▸ zc_.new h _
 have g1 : h1.get h.next = some (.cells [.string s, .int .i64 0] 154 true 0) := by rw [e1]; simp
 have n1 : h1.next = h.next + 1 := by rw [e1]; rfl
 rw [← e1]
 refine .bnd rfl ?_
 have P1 : PRd h1 h.next (some (bl s)) := PRd.ok (l := bl s) g1 (by rw [zh_]; exact hs)
 refine .call (rfixed_spec D hk (show h.next < h1.next by omega) P1) fun r2 ⟨q2, P2, c2⟩ => ?_
 refine .call (zIc_ D hk P2 65536) fun r3 ⟨q3, P3, c3⟩ => Wp.jn fun j10 h10 => ?_
 rw [q2, q3]
 have n3 := (c2.trans c3).nx
 have kz : zc_ h r3.2 := k1.keepsS (c2.trans c3) fun y hy => by have hy : y = h.next := hy; omega
 have bad : ∀ a b, zag_ (bl s) = none → Gx.Wp (j10 s a b (some ⟨h.next, 0, none⟩) true r3.2) fun z => zc_ h z.2 ∧ match zag_ (bl s) with
   | some (c, n, r) => z.1 = ((c : Int), (n : Int), ⟨⟨r⟩⟩, 0)
   | none => z.1 = (0, 0, ⟨#[]⟩, 130) := fun a b hn => by
  rw [h10, hn]
  exact .ifp rfl (.of ⟨kz, rfl⟩)
 obtain ⟨S, e, g3, hS, he, hl⟩ := P3
 refine .bnd (zJj_ D g3) ?_
 cases hb : bl s with
 | nil =>
  rw [hb] at he bad
  have : e ≠ 0 := fun q => by have := he.1 q; simp [opF, opS] at this
  exact .ifp (by simpa using this) (bad _ _ rfl)
 | cons c t =>
  rw [hb] at he bad hl
  have hcl := c.toNat_lt
  cases hp : pS 65536 t with
  | none =>
   have : e ≠ 0 := fun q => by have := he.1 q; simp [opF, opS, hp] at this
   exact .ifp (by simpa using this) (bad _ _ (by simp [zag_, hp]))
  | some x =>
   obtain ⟨n, r⟩ := x
   have e0 : e = 0 := he.2 (by simp [opF, opS, hp])
   have eS := hl r (by simp [opF, opS, hp])
   refine .ifn (by simp [e0]) ?_
   have o1 : (opF (some (c :: t))).1 = c.toNat := rfl
   have o2 : (opS 65536 (opF (some (c :: t))).2).1 = n := by simp [opF, opS, hp]
   rw [o1, o2]
   refine .bnd (zQk_ k D _ r3.2) ?_
   simp only []
   rw [zGC_ ⟨c.toNat, hcl⟩]
   by_cases ck : knB c.toNat = true
   ·have hh : zag_ (c :: t) = some (c.toNat, n, r) := by simp [zag_, hp, ck]
    rw [hh, h10]
    obtain ⟨_, m, hm, er⟩ := zpv_ hp
    have st : t.length + 1 = s.size := by rw [← zh_, hb]; rfl
    have lr : r.length = t.length - m := by rw [er, List.length_drop]
    have sS : S.size = r.length := by rw [eS]; rfl
    refine .ifn (by rw [ck]; simp) (.bnd (zhh_ D g3) ?_)
    simp only []
    rw [show IntKind.wrap .i64 ((s.size : Int) - (S.size : Int)) = ((m + 1 : Nat) : Int) by rw [Gx.w64 _ (by omega)]; omega]
    refine .bnd (zFb_ (i := m + 1) (j := s.size) rfl rfl (by omega) (Nat.le_refl _)) (.of ⟨kz, ?_⟩)
    rw [List.take_of_length_le (by rw [zh_]; exact Nat.le_refl _), hb, List.drop_succ_cons, ← er]
   ·have ck' : knB c.toNat = false := by simpa using ck
    rw [ck']
    exact bad _ _ (by simp [zag_, hp, ck'])
end
def idB (c : Nat) (t : List UInt8) : ByteArray := ⟨⟨zKi_ (UInt8.ofNat c :: t)⟩⟩
def isK (n : Int) : Bool := decide (n = 1 ∨ n = 2)
noncomputable def idV (n : Int) (t : List UInt8) : ByteArray × Int := if isK n = true then (idB n.toNat t, 0) else (⟨#[]⟩, 1)
theorem zuy_ {n : Int} (h : isK n = true) : Value.int .u8 (IntKind.wrap .u8 n) = encB (UInt8.ofNat n.toNat) := by
 unfold isK at h
 simp only [decide_eq_true_eq] at h
 rcases h with h | h <;> subst h <;> rfl
section
variable {k : Nat} {h : AHeap} {t : ByteArray} {n : Int}
theorem zsq_ {h h2 : AHeap} {b : UInt8} (g : h2.get h.next = some (.cells [encB b] 5 true 0)) : zeb_ h2 ⟨some ⟨h.next, 0, some 0⟩, 1, 1⟩ = some ⟨⟨[b]⟩⟩ :=
 zud_ (l := [b]) g
theorem zes_ (a b : ByteArray) : B.catL [a, b] = bl a ++ bl b := by simp [B.catL]
theorem zVC_ {h : AHeap} {b : Nat} {x y : ByteArray} (g : h.get b = some (.cells [.string x, .string y] 9 true 0)) (hl : b < h.next) : Row encS h ⟨some ⟨b, 0, some 0⟩, 2, 2⟩ [x, y] :=
 Row.of_block (enc := encS) (xs := [x, y]) g hl fun i z hz => by
  match i with
  | 0 => simp at hz; subst hz; rfl
  | 1 => simp at hz; subst hz; rfl
  | i + 2 => simp at hz
theorem zpD_ {n : Int} {t : List UInt8} (h : isK n = false) : idV n t = (⟨#[]⟩, 1) := by unfold idV; rw [h]; rfl
theorem zpp_ {n : Int} {t : List UInt8} (h : isK n = true) : idV n t = (idB n.toNat t, 0) := by unfold idV; rw [if_pos h]
theorem zBq_ (D : za_) (kg : KG 0 h) (ht : t.size ≤ 140737488351232) (hk : 200 ≤ k) (hk2 : t.size + 100 < 32 * k) :
  Gx.Wp (zrj_ k D n t h) fun z => z.1 = idV n (bl t) ∧ zc_ h z.2 := by
 simp only [zrj_]
 refine .bnd (zQk_ k D n h) ?_
 have hd : decide (n = 1 ∨ n = 2) = isK n := rfl
 rw [hd]
 cases hn : isK n with
 | false =>
  exact .ifp rfl (.of ⟨(zpD_ hn).symm, Chg.refl _ _⟩)
 | true =>
  refine .ifn (by simp) (Wp.newE fun h2 e2 k2 n2 g2 => ?_)
  rw [zuy_ hn] at g2
  refine .bnd (zsq_ g2) (Wp.newE fun h4 e4 k4 n4 g4 => ?_)
  have kg4 : KG 0 h4 := (kg.chg k2 fun f => f).chg k4 fun f => f
  refine .call (B.sum_spec hk D kg4 (zVC_ g4 (by omega)) (by rw [zes_, zre_, List.length_append, zh_]; simp; omega) (by rw [zes_, zre_, List.length_append, zh_]; simp; omega) (by simp; omega) (by simp)) fun r5 ⟨q5, k5⟩ => .of ⟨?_, (k2.trans k4).trans k5⟩
  rw [q5, zes_, zre_, zpp_ hn]; rfl
def encP (c : Nat) (t : List UInt8) : List UInt8 := if (zse_ t).length < t.length then UInt8.ofNat (c + 16) :: (leb t.length ++ zse_ t) else UInt8.ofNat c :: (leb t.length ++ t)
noncomputable def encV (n : Int) (t : ByteArray) : ByteArray × Int := if isK n = true then (if 65536 < t.size then (⟨#[]⟩, 2) else (⟨⟨encP n.toNat (bl t)⟩⟩, 0)) else (⟨#[]⟩, 1)
theorem zhD_ {n : Int} (h : isK n = true) : Value.int .u8 (IntKind.wrap .u8 (Go.bits .or .i64 n 16)) = encB (UInt8.ofNat (n.toNat + 16)) := by
 unfold isK at h
 simp only [decide_eq_true_eq] at h
 rcases h with h | h <;> subst h <;> rfl
theorem ba3 (a b c : List UInt8) : ((⟨⟨a⟩⟩ : ByteArray) ++ (⟨⟨b⟩⟩ : ByteArray)) ++ (⟨⟨c⟩⟩ : ByteArray) = ⟨⟨a ++ (b ++ c)⟩⟩ := by
 apply zSf_
 simp [bl]
theorem zMn_ (s : List UInt8) : ∀ (f i kept : Nat) (es : List Fr) (out : List UInt8), kept ≤ i → i ≤ s.length → out.length ≤ 2 * kept → (zxi_ s f i kept es out).length ≤ 2 * s.length + 2
 | 0, i, kept, es, out, h1, h2, h3 => by simp [zxi_]; omega
 | f + 1, i, kept, es, out, h1, h2, h3 => by
  unfold zxi_
  split
  ·split
   ·rename_i c4
    have sq := zXu_ (l := (s.take i).drop kept) (d := (znb_ s i es).1) c4
    have sl2 : ((s.take i).drop kept).length = i - kept := by simp; omega
    refine zMn_ s f _ _ _ _ (Nat.le_refl _) (by omega) ?_
    rw [List.length_append]; omega
   ·exact zMn_ s f _ _ _ _ (by omega) (by omega) h3
  ·have h1 := zQj_ (s.drop kept).length
   unfold seqB
   rw [if_neg (by omega)]
   simp only [List.length_append, List.length_cons, List.length_nil, List.length_drop] at h1 ⊢
   omega
theorem zAz_ (l : List UInt8) : (zse_ l).length ≤ 2 * l.length + 2 := zMn_ l _ 0 0 [] [] (Nat.le_refl _) (by omega) (by simp)
theorem zWC_ {n : Int} (h : isK n = false) : encV n t = (⟨#[]⟩, 1) := by unfold encV; rw [h]; rfl
theorem zsA_ {n : Int} (h : isK n = true) (c : 65536 < t.size) : encV n t = (⟨#[]⟩, 2) := by unfold encV; rw [if_pos h, if_pos c]
theorem zRu_ {n : Int} (h : isK n = true) (c : ¬ 65536 < t.size) : encV n t = (⟨⟨encP n.toNat (bl t)⟩⟩, 0) := by unfold encV; rw [if_pos h, if_neg c]
theorem zlu_ (D : za_) (hk : 1200000 ≤ k) :
  Gx.Wp (zli_ k D n t h) fun z => z.1 = encV n t ∧ zc_ h z.2 := by
 simp only [zli_]
 refine .bnd (zQk_ k D n h) ?_
 have hd : decide (n = 1 ∨ n = 2) = isK n := rfl
 rw [hd]
 cases hn : isK n with
 | false => exact .ifp rfl (.of ⟨(zWC_ hn).symm, Chg.refl _ _⟩)
 | true =>
  refine .ifn (by simp) ?_
  by_cases c : 65536 < t.size
  ·exact .ifp (by simp; omega) (.of ⟨(zsA_ hn c).symm, Chg.refl _ _⟩)
  rw [zRu_ hn c]
  refine .ifn (by simp; omega) (.call (zjm_ D (by omega) t.size (by omega) h) fun r2 ⟨q2, k2⟩ => .call (znz_ D (by omega) (by omega)) fun r3 ⟨q3, k3⟩ => Wp.jn fun j10 h10 => ?_)
  have kz := k2.trans k3
  have bt : (bl t).length = t.size := zh_ t
  have ll : (leb t.size).length ≤ 3 := zJb_ 2 t.size (by omega)
  have pl := zAz_ (bl t)
  have J : ∀ y, y = decide ((zse_ (bl t)).length < (bl t).length) → Gx.Wp (j10 n t (bA (leb t.size)) ⟨⟨zse_ (bl t)⟩⟩ y r3.2) fun z => z.1 = ((⟨⟨encP n.toNat (bl t)⟩⟩ : ByteArray), (0 : Int)) ∧ zc_ h z.2 := fun y hy => by
   rw [h10]
   by_cases cc : (zse_ (bl t)).length < (bl t).length
   ·have ee : encP n.toNat (bl t) = UInt8.ofNat (n.toNat + 16) :: (leb t.size ++ zse_ (bl t)) := by unfold encP; rw [if_pos cc, bt]
    rw [ee]
    refine .ifp (by rw [hy]; simpa using cc) (Wp.newE fun h11 e11 k11 n11 g11 => ?_)
    rw [zhD_ hn] at g11
    refine .bnd (zsq_ g11) (.ifp ?_ (.ifp ?_ (.of ⟨?_, kz.trans k11⟩)))
    ·show 1 + (leb t.size).length ≤ _; omega
    ·rw [ByteArray.size_append]
     show 1 + (leb t.size).length + (zse_ (bl t)).length ≤ _
     omega
    ·show (((⟨⟨_⟩⟩ : ByteArray) ++ bA (leb t.size)) ++ (⟨⟨_⟩⟩ : ByteArray), (0 : Int)) = _
     rw [bA, ba3]; rfl
   ·have ee : encP n.toNat (bl t) = UInt8.ofNat n.toNat :: (leb t.size ++ bl t) := by unfold encP; rw [if_neg cc, bt]
    rw [ee]
    refine .ifn (by rw [hy]; simpa using cc) (Wp.newE fun h11 e11 k11 n11 g11 => ?_)
    rw [zuy_ hn] at g11
    refine .bnd (zsq_ g11) (.ifp ?_ (.ifp ?_ (.of ⟨?_, kz.trans k11⟩)))
    ·show 1 + (leb t.size).length ≤ _; omega
    ·rw [ByteArray.size_append]
     show 1 + (leb t.size).length + t.size ≤ _
     omega
    ·have := ba3 [UInt8.ofNat n.toNat] (leb t.size) (bl t)
     show (((⟨⟨_⟩⟩ : ByteArray) ++ bA (leb t.size)) ++ t, (0 : Int)) = _
     rw [bA]
     exact congrArg (·, (0 : Int)) this
  rw [q2, q3]
  exact .ifp rfl (J _ (by rw [bt, zXb_]; simp))
end
def zHg_ (l : List UInt8) : Option (Nat × List UInt8) :=
 match zag_ l with
 | none => none
 | some (c, n, r) => if c < 16 then (if r.length = n then some (c, r) else none) else (unpB r (n : Int)).map fun t => (c - 16, t)
theorem zvD_ : ∀ a : Fin 256, knB a.val = true → (Go.bits .and .i64 (a.val : Int) 16 == 0) = decide (a.val < 16) ∧ (a.val < 16 → Go.bits .andNot .i64 (a.val : Int) 16 = (a.val : Int)) ∧ (¬ a.val < 16 → Go.bits .andNot .i64 (a.val : Int) 16 = ((a.val - 16 : Nat) : Int)) := by decide +kernel
theorem zMz_ {c : Nat} (h : knB c = true) : c < 256 := by
 unfold knB at h
 simp only [decide_eq_true_eq] at h
 omega
theorem zCv_ {l : List UInt8} {c n : Nat} {r : List UInt8} (h : zag_ l = some (c, n, r)) : knB c = true ∧ n ≤ 65536 ∧ r.length + 1 ≤ l.length := by
 unfold zag_ at h
 split at h
 ·cases h
 ·rename_i c0 t
  split at h
  ·rename_i n0 r0 hp
   split at h
   ·rename_i hk
    cases h
    obtain ⟨h1, m, h2, h3⟩ := zpv_ hp
    refine ⟨hk, h1, ?_⟩
    rw [h3, List.length_drop, List.length_cons]; omega
   ·cases h
  ·cases h
theorem zNC_ {l t : List UInt8} {c : Nat} (h : zHg_ l = some (c, t)) : isK (c : Int) = true ∧ t.length ≤ 1048576 + l.length := by
 unfold zHg_ at h
 split at h
 ·cases h
 ·rename_i c0 n r hh
  obtain ⟨hk, hn, hr⟩ := zCv_ hh
  unfold knB at hk
  simp only [decide_eq_true_eq] at hk
  split at h
  ·split at h
   ·cases h
    exact ⟨by unfold isK; simp only [decide_eq_true_eq]; omega, by omega⟩
   ·cases h
  ·cases hu : unpB r (n : Int) with
   | none => rw [hu] at h; cases h
   | some x =>
    rw [hu] at h
    cases h
    have := zpq_ hu
    exact ⟨by unfold isK; simp only [decide_eq_true_eq]; omega, by omega⟩
noncomputable def zKg_ (l : List UInt8) : Int × ByteArray × Int := match zHg_ l with
 | some (c, t) => ((c : Int), ⟨⟨t⟩⟩, 0)
 | none => (0, ⟨#[]⟩, 130)
section
variable {k : Nat} {h : AHeap} {s : ByteArray}
theorem zlv_ (D : za_) (hk : 1200000 ≤ k) (hs : s.size ≤ 4000) : Gx.Wp (zqi_ k D s h) fun z => z.1 = zKg_ (bl s) ∧ zc_ h z.2 := by
 simp only [zqi_]
 refine .call (zEA_ D (by omega) (by omega)) fun r1 ⟨k1, q1⟩ => Wp.jn fun j7 h7 => ?_
 have bs : (bl s).length = s.size := zh_ s
 cases hh : zag_ (bl s) with
 | none =>
  rw [hh] at q1
  have e : zKg_ (bl s) = (0, ⟨#[]⟩, 130) := by unfold zKg_ zHg_; rw [hh]
  rw [e]
  refine .ifp (by rw [q1]; rfl) (.of ⟨by rw [q1], k1⟩)
 | some x =>
  obtain ⟨c, n, r⟩ := x
  rw [hh] at q1
  simp only [] at q1
  obtain ⟨hkn, hn, hr⟩ := zCv_ hh
  obtain ⟨a1, a2, a3⟩ := zvD_ ⟨c, zMz_ hkn⟩ hkn
  simp only [] at a1 a2 a3
  rw [q1]
  refine .ifn (by simp) ?_
  dsimp only
  rw [a1]
  have J : ∀ (tx : ByteArray) (e : Int) (H : AHeap), zc_ h H → (∀ m : Nat, e = 0 → (tx.size : Int) = (n : Int) → Go.bits .andNot .i64 (c : Int) 16 = (m : Int) → zKg_ (bl s) = ((m : Int), tx, 0)) → (¬ (e = 0 ∧ (tx.size : Int) = (n : Int)) → zKg_ (bl s) = (0, ⟨#[]⟩, 130)) →
    (∃ m : Nat, Go.bits .andNot .i64 (c : Int) 16 = (m : Int)) → Gx.Wp (j7 (c : Int) tx e (n : Int) H) fun z => z.1 = zKg_ (bl s) ∧ zc_ h z.2 := fun tx e H kH f1 f2 ⟨m, hm⟩ => by
   rw [h7]
   refine Wp.jn fun j12 h12 => ?_
   by_cases ce : e = 0
   ·refine .ifn (by simp [ce]) ?_
    rw [h12]
    by_cases cl : (tx.size : Int) = (n : Int)
    ·exact .ifn (by simp [cl]) (.of ⟨by rw [f1 m ce cl hm, hm], kH⟩)
    ·exact .ifp (by simpa using cl) (.of ⟨by rw [f2 fun q => cl q.2], kH⟩)
   ·refine .ifp (by simpa using ce) ?_
    rw [h12]
    exact .ifp rfl (.of ⟨by rw [f2 fun q => ce q.1], kH⟩)
  have sz : (⟨⟨r⟩⟩ : ByteArray).size = r.length := zXb_ _
  by_cases c16 : c < 16
  ·refine .ifp (by simpa using c16) (J _ _ _ k1 (fun m _ hl hm => ?_) (fun hl => ?_) ⟨c, a2 c16⟩)
   ·have em : m = c := by have := a2 c16; omega
    unfold zKg_ zHg_
    rw [hh]; simp only []
    rw [if_pos c16, if_pos (by omega), em]
   ·unfold zKg_ zHg_
    rw [hh]; simp only []
    rw [if_pos c16, if_neg (fun q => hl ⟨rfl, by omega⟩)]
  ·refine .ifn (by simpa using c16) (.call (zzw_ D (by omega) (by omega) (n : Int)) fun r13 ⟨k13, q13⟩ => ?_)
   have kz := k1.trans k13
   cases hu : unpB r (n : Int) with
   | none =>
    rw [zre_, hu] at q13
    refine J _ _ _ kz (fun m h0 _ _ => absurd h0 q13.2) (fun _ => ?_) ⟨c - 16, a3 c16⟩
    unfold zKg_ zHg_
    rw [hh]; simp only []
    rw [if_neg c16, hu]; rfl
   | some tx =>
    rw [zre_, hu] at q13
    simp only [] at q13
    rw [q13]
    have ul := zpq_ hu
    have ed : zKg_ (bl s) = (((c - 16 : Nat) : Int), ⟨⟨tx⟩⟩, 0) := by
     unfold zKg_ zHg_
     rw [hh]; simp only []
     rw [if_neg c16, hu]; rfl
    refine J _ _ _ kz (fun m _ _ hm => ?_) (fun hl => absurd ⟨rfl, ?_⟩ hl) ⟨c - 16, a3 c16⟩
    ·have em : m = c - 16 := by have := a3 c16; omega
     rw [ed, em]
    ·rw [zXb_]; exact ul.1
noncomputable def opnV (l : List UInt8) (id : ByteArray) : Int × ByteArray × Int := match zHg_ l with
 | some (c, t) => if idB c t = id then ((c : Int), ⟨⟨t⟩⟩, 0) else (0, ⟨#[]⟩, 130)
 | none => (0, ⟨#[]⟩, 130)
theorem zRs_ (D : za_) (kg : KG 0 h) (hk : 1200000 ≤ k) (hs : s.size ≤ 4000) (id : ByteArray) : Gx.Wp (zqk_ k D s id h) fun z => z.1 = opnV (bl s) id ∧ zc_ h z.2 := by
 simp only [zqk_]
 have bs : (bl s).length = s.size := zh_ s
 refine .call (zlv_ D hk hs) fun r1 ⟨q1, k1⟩ => ?_
 unfold opnV
 unfold zKg_ at q1
 cases hd : zHg_ (bl s) with
 | none =>
  rw [hd] at q1
  rw [q1]
  exact .ifp rfl (.of ⟨rfl, k1⟩)
 | some x =>
  obtain ⟨c, t⟩ := x
  rw [hd] at q1
  simp only [] at q1
  obtain ⟨e1, e2⟩ := zNC_ hd
  rw [q1]
  refine .ifn (by simp) (.call (zBq_ D (kg.chg k1 fun f => f) (by rw [zXb_]; omega) (by omega) (by rw [zXb_]; omega)) fun r2 ⟨q2, k2⟩ => ?_)
  rw [q2, zre_, zpp_ e1, Int.toNat_natCast]
  simp only []
  by_cases ci : idB c t = id
  ·rw [if_pos ci]
   exact .ifn (by rw [zOe_]; simp [ci]) (.of ⟨rfl, k1.trans k2⟩)
  ·rw [if_neg ci]
   exact .ifp (by rw [zOe_]; simpa using ci) (.of ⟨rfl, k1.trans k2⟩)
end
section
variable {k : Nat} {h : AHeap} {s : ByteArray}
end
end Gg
namespace Gg
open Go Gx
theorem zYz_ {n : Nat} (hn : n ≤ 65536) (r : List UInt8) : pS 65536 (leb n ++ r) = some (n, r) := by
 unfold pS
 rw [zRr_ 8 r (by omega) (fun h => by cases h)]
 simp; omega
theorem zat_ {c n : Nat} (hc : knB c = true) (hn : n ≤ 65536) (r : List UInt8) : zag_ (UInt8.ofNat c :: (leb n ++ r)) = some (c, n, r) := by
 have hlt := zMz_ hc
 have e : (UInt8.ofNat c).toNat = c := by rw [UInt8.toNat_ofNat']; omega
 unfold zag_
 simp only []
 rw [zYz_ hn]
 simp only []
 rw [e, if_pos hc]
theorem zRB_ (t : List UInt8) (h : t.length ≤ 65536) : unpB (zse_ t) (t.length : Int) = some t := by
 obtain ⟨qs, h1, h2⟩ := zFB_ t
 unfold unpB
 rw [h1]
 simp only []
 rw [if_pos ⟨trivial, by omega⟩, h2]
theorem zfC_ {c : Nat} (hc : c = 1 ∨ c = 2) {t : List UInt8} (ht : t.length ≤ 65536) : zHg_ (encP c t) = some (c, t) := by
 unfold encP zHg_
 by_cases cc : (zse_ t).length < t.length
 ·rw [if_pos cc, zat_ (by unfold knB; simp only [decide_eq_true_eq]; omega) ht]
  simp only []
  rw [if_neg (by omega), zRB_ t ht]
  simp
 ·rw [if_neg cc, zat_ (by unfold knB; simp only [decide_eq_true_eq]; omega) ht]
  simp only []
  rw [if_pos (by omega), if_pos trivial]
theorem zZh_ {c : Nat} {t : List UInt8} (ht : t.length ≤ 65536) : (encP c t).length ≤ t.length + 4 ∧ 2 ≤ (encP c t).length := by
 have ll : (leb t.length).length ≤ 3 := zJb_ 2 t.length (by omega)
 have l1 := zdp_ t.length
 unfold encP
 split
 ·simp only [List.length_cons, List.length_append]; omega
 ·simp only [List.length_cons, List.length_append]; omega
section
variable {k : Nat} {h : AHeap} {t : ByteArray}
end
theorem wstr {k pb o base : Nat} {H : AHeap} {c : List Value} {s : Slc} {l : List UInt8} {pv : Value} (D : za_) (g : H.get pb = some (.cells c 103 true 0)) (hl : pb < H.next) (hpc : c[o]? = some pv) (hpv : pv = .pointer none ∨ pv = .pointer (some ⟨pb, o, none⟩))
  (hs : c[o + 1]? = some (.slice s.a s.len s.cap)) (ht : zfk_ 103 o c.length zej_ = true) (A : Acc encB 5 base H s l) (ne : ∀ a, s.a = some a → a.block ≠ pb) (hb : base ≤ H.next) (x : ByteArray) (hx : 2 * (l.length + x.size) ≤ 281474976710656) :
  Gx.Wp (zt_ k D (some ⟨pb, o, none⟩) x H) fun z => ∃ s', z.2.get pb = some (.cells ((c.set o (.pointer (some ⟨pb, o, none⟩))).set (o + 1) (.slice s'.a s'.len s'.cap)) 103 true 0) ∧ Acc encB 5 base z.2 s' (l ++ bl x) ∧ Chg (fun y => y = pb ∨ ofS s y) H z.2 ∧ (∀ a, s'.a = some a → H.next ≤ a.block ∨ ofS s a.block) ∧ H.next ≤ z.2.next := by
 simp only [zt_]
 have ho : o + 1 < c.length := (List.getElem?_eq_some_iff.1 hs).1
 obtain ⟨H1, e1, g1, c1⟩ : ∃ H1, ccA zej_ ⟨pb, o, none⟩ H = some H1 ∧ H1.get pb = some (.cells (c.set o (.pointer (some ⟨pb, o, none⟩))) 103 true 0) ∧ Chg (· = pb) H H1 := by
  rcases hpv with rfl | rfl
  ·refine ⟨_, ?_, zmb_ _ _ _, Chg.set (.inr rfl)⟩
   ·unfold ccA
    simp only [g]
    rw [if_pos ⟨ht, trivial⟩]
    simp only [hpc]
    rw [zpc_ g (by omega) rfl]
  ·have e : c.set o (.pointer (some ⟨pb, o, none⟩)) = c := by
    apply List.ext_getElem?
    intro j
    rw [List.getElem?_set]
    split
    ·rename_i h; subst h; rw [if_pos (by omega), hpc]
    ·rfl
   refine ⟨H, ?_, by rw [e]; exact g, .refl _ _⟩
   ·unfold ccA
    simp only [g]
    rw [if_pos ⟨ht, trivial⟩]
    simp [hpc]
 have nx1 := c1.nx
 have A1 : Acc encB 5 base H1 s l := A.chg c1 fun a ha e => ne a ha e
 obtain ⟨s', h5, a5, A5, c5, d5⟩ : ∃ s' h5, zl_ 1 1 5 H1 s (zM_ x) x.size = some (s', h5) ∧ Acc encB 5 base h5 s' (l ++ bl x) ∧ Chg (ofS s) H1 h5 ∧ ∀ a, s'.a = some a → H1.next ≤ a.block ∨ ofS s a.block := by
  obtain ⟨s', h5, p1, p2, p3, p4⟩ := A1.app (fun _ => rfl) (bl x) (bytes := 1) (by have : (bl x).length = x.size := rfl; omega) (by decide) (by omega)
  exact ⟨s', h5, p1, p2, p3, fun a ha => (p4 a ha).imp id fun q => ⟨a, q, rfl⟩⟩
 have n5 := c5.nx
 have g5 := c5.got (show pb < H1.next by omega) (fun ⟨a, ha, e⟩ => ne a ha e.symm) g1
 have hs1 : (c.set o (.pointer (some ⟨pb, o, none⟩)))[o + 1]? = some (.slice s.a s.len s.cap) := by rw [List.getElem?_set_ne (by omega)]; exact hs
 refine .bnd rfl (.bnd e1 (.bnd rfl (.bnd (zB_ g1 hs1) (.bnd a5 (.bnd rfl (.bnd (zpc_ g5 (by simp; omega) rfl) (.of ?_)))))))
 have d5' : ∀ a, s'.a = some a → a.block ≠ pb := fun a ha e => by
  rcases d5 a ha with q | ⟨b, hb, q⟩
  ·omega
  ·exact ne b hb (q ▸ e)
 refine ⟨s', zmb_ _ _ _, A5.chg (S := (· = pb)) (Chg.set (.inr rfl)) fun a ha e => d5' a ha e, ?_, fun a ha => (d5 a ha).imp (fun q => by omega) id, by show H.next ≤ h5.next; omega⟩
 exact Chg.beh (T := (· = pb)) (Chg.beh (T := ofS s) (c1.wk fun y _ e => .inl e) c5 fun y _ e => .inr e) (Chg.set (.inr rfl)) fun y _ e => .inl e
def sK (s : ByteArray) : Value := .string s
abbrev PSt := List UInt8 × List UInt8 × List It × List (ByteArray × ByteArray × Nat)
def zGu_ (p1 p2 : Value) (s1 s2 si : Slc) (lim : Int) (mb : Nat) : List Value :=
 [p1, .slice s1.a s1.len s1.cap, .int .i64 lim, p2, .slice s2.a s2.len s2.cap, .slice si.a si.len si.cap, .map (some mb)]
structure PB (H : AHeap) (pb mb : Nat) (s1 s2 si : Slc) (lim : Int) (q : PSt) : Prop where
 g : ∃ p1 p2, H.get pb = some (.cells (zGu_ p1 p2 s1 s2 si lim mb) 103 true 0) ∧ (p1 = .pointer none ∨ p1 = .pointer (some ⟨pb, 0, none⟩)) ∧ (p2 = .pointer none ∨ p2 = .pointer (some ⟨pb, 3, none⟩))
 A1 : Acc encB 5 (pb + 1) H s1 q.1
 A2 : Acc encB 5 (pb + 1) H s2 q.2.1
 A3 : AccW 6 itC 57 (pb + 1) H si q.2.2.1
 M : zsc_ sK sK H mb q.2.2.2
 lt : pb < H.next
 mlt : pb < mb ∧ mb < H.next
 ap : zFu_ s1 s2
section
variable {k pb mb : Nat} {H H' : AHeap} {s1 s2 si : Slc} {lim : Int} {q : PSt}
theorem PB.chg {S : Nat → Prop} (B : PB H pb mb s1 s2 si lim q) (c : Chg S H H') (hs : ∀ y, S y → y < pb ∨ H.next ≤ y) : PB H' pb mb s1 s2 si lim q := by
 have nx := c.nx
 have hm := B.mlt
 have hl := B.lt
 have no : ∀ y, pb ≤ y → y < H.next → ¬ S y := fun y h1 h2 h3 => by have := hs y h3; omega
 obtain ⟨p1, p2, g, h1, h2⟩ := B.g
 exact ⟨⟨p1, p2, c.got hl (no _ (Nat.le_refl _) hl) g, h1, h2⟩, B.A1.chg c fun a ha => no _ (by have := B.A1.lt a ha; omega) (B.A1.lt a ha).1, B.A2.chg c fun a ha => no _ (by have := B.A2.lt a ha; omega) (B.A2.lt a ha).1,
  B.A3.chg c fun a ha => no _ (by have := B.A3.lt a ha; omega) (B.A3.lt a ha).1, B.M.chg c hm.2 (no _ (by omega) hm.2), by omega, by omega, B.ap⟩
theorem PB.keeps (B : PB H pb mb s1 s2 si lim q) (c : zc_ H H') : PB H' pb mb s1 s2 si lim q := B.chg c fun _ f => f.elim
theorem zsd_ {base : Nat} {s : Slc} {l : List UInt8} {a : Addr} (A : Acc encB 5 base H s l) (ha : s.a = some a) : ∃ c, H.get a.block = some (.cells c 5 true 0) := by
 rcases A.st with ⟨h, _⟩ | ⟨b, g⟩
 ·rw [h] at ha; cases ha
 ·rw [g.s] at ha; cases ha; exact ⟨_, g.blk⟩
theorem zbg_ {base : Nat} {s : Slc} {l : List It} {a : Addr} (A : AccW 6 itC 57 base H s l) (ha : s.a = some a) : ∃ c, H.get a.block = some (.cells c 57 true 0) := by
 rcases A.st with ⟨h, _⟩ | ⟨b, h, g, _⟩
 ·rw [h] at ha; cases ha
 ·rw [h] at ha; cases ha; exact ⟨_, g⟩
theorem PB.ne13 (B : PB H pb mb s1 s2 si lim q) {s : Slc} {base : Nat} {l : List UInt8} (A : Acc encB 5 base H s l) {a : Addr} (ha : si.a = some a) : ¬ ofS s a.block := fun ⟨b, hb, e⟩ => by
 obtain ⟨c1, g1⟩ := zsd_ A hb
 obtain ⟨c2, g2⟩ := zbg_ B.A3 ha
 rw [e, g1] at g2
 cases g2
theorem PB.neM (B : PB H pb mb s1 s2 si lim q) {s : Slc} {base : Nat} {l : List UInt8} (A : Acc encB 5 base H s l) : ¬ ofS s mb := fun ⟨b, hb, e⟩ => by
 obtain ⟨c1, g1⟩ := zsd_ A hb
 have g2 : H.get mb = some (.map _ _) := B.M
 rw [e, g1] at g2
 cases g2
theorem PB.ld1 (B : PB H pb mb s1 s2 si lim q) : ldL ⟨pb, 0 + 0 + 0 + 1, none⟩ H = some s1 := by obtain ⟨p1, p2, g, _⟩ := B.g; exact zB_ g rfl
theorem PB.ld2 (B : PB H pb mb s1 s2 si lim q) : ldL ⟨pb, 0 + 3 + 1, none⟩ H = some s2 := by obtain ⟨p1, p2, g, _⟩ := B.g; exact zB_ g rfl
theorem PB.ld3 (B : PB H pb mb s1 s2 si lim q) : ldL ⟨pb, 0 + 5, none⟩ H = some si := by obtain ⟨p1, p2, g, _⟩ := B.g; exact zB_ g rfl
theorem PB.ldl (B : PB H pb mb s1 s2 si lim q) : ldI .i64 ⟨pb, 0 + 2, none⟩ H = some lim := by obtain ⟨p1, p2, g, _⟩ := B.g; exact zp_ g rfl
theorem PB.ldm (B : PB H pb mb s1 s2 si lim q) : ldM ⟨pb, 0 + 6, none⟩ H = some (some mb) := by obtain ⟨p1, p2, g, _⟩ := B.g; exact zvo_ g rfl
theorem PB.len1 (B : PB H pb mb s1 s2 si lim q) (D : za_) : zO_ k D (some ⟨pb, 0 + 0 + 0, none⟩) H = some ((q.1.length : Int), H) := by
 simp only [zO_]
 have : s1.len = q.1.length := B.A1.row.1
 exact bnd rfl (bnd B.ld1 (by rw [this]))
theorem PB.len2 (B : PB H pb mb s1 s2 si lim q) (D : za_) : zO_ k D (some ⟨pb, 0 + 3, none⟩) H = some ((q.2.1.length : Int), H) := by
 simp only [zO_]
 have : s2.len = q.2.1.length := B.A2.row.1
 exact bnd rfl (bnd B.ld2 (by rw [this]))
theorem ccT0 : zfk_ 103 0 7 zej_ = true := by decide
theorem ccT3 : zfk_ 103 3 7 zej_ = true := by decide
def OwnP (pb mb : Nat) (s1 s2 si : Slc) (y : Nat) : Prop := y = pb ∨ y = mb ∨ ofS s1 y ∨ ofS s2 y ∨ ofS si y
theorem PB.ge (B : PB H pb mb s1 s2 si lim q) {y : Nat} (h : OwnP pb mb s1 s2 si y) : pb ≤ y ∧ y < H.next := by
 have := B.lt; have := B.mlt
 rcases h with h | h | ⟨a, ha, h⟩ | ⟨a, ha, h⟩ | ⟨a, ha, h⟩
 ·omega
 ·omega
 ·have := B.A1.lt a ha; omega
 ·have := B.A2.lt a ha; omega
 ·have := B.A3.lt a ha; omega
theorem PB.other (B : PB H pb mb s1 s2 si lim q) {y : Nat} {c : List Value} {e : TypeId} {r : Bool} {fz : Nat} (g : H.get y = some (.cells c e r fz)) (h1 : e ≠ 103) (h2 : e ≠ 5) (h3 : e ≠ 57) : ¬ OwnP pb mb s1 s2 si y := by
 rintro (h | h | ⟨a, ha, h⟩ | ⟨a, ha, h⟩ | ⟨a, ha, h⟩)
 ·obtain ⟨p1, p2, gg, _⟩ := B.g
  rw [h, gg] at g; cases g; exact h1 rfl
 ·have gg : H.get mb = some (.map _ _) := B.M
  rw [h, gg] at g; cases g
 ·obtain ⟨cc, gg⟩ := zsd_ B.A1 ha
  rw [h, gg] at g; cases g; exact h2 rfl
 ·obtain ⟨cc, gg⟩ := zsd_ B.A2 ha
  rw [h, gg] at g; cases g; exact h2 rfl
 ·obtain ⟨cc, gg⟩ := zbg_ B.A3 ha
  rw [h, gg] at g; cases g; exact h3 rfl
theorem PB.put1 (B : PB H pb mb s1 s2 si lim q) (D : za_) (x : ByteArray) (hx : 2 * (q.1.length + x.size) ≤ 281474976710656) :
  Gx.Wp (zt_ k D (some ⟨pb, 0 + 0 + 0, none⟩) x H) fun z => ∃ s', PB z.2 pb mb s' s2 si lim (q.1 ++ bl x, q.2.1, q.2.2.1, q.2.2.2) ∧ Chg (fun y => y = pb ∨ ofS s1 y) H z.2 := by
 obtain ⟨p1, p2, g, h1, h2⟩ := B.g
 have hm := B.mlt
 refine .mono (wstr (o := 0) D g B.lt rfl h1 rfl ccT0 B.A1 (fun a ha e => by have := (B.A1.lt a ha).2; omega) (by have := B.lt; omega) x hx) fun z ⟨s', g', A', c, d, nx⟩ => ?_
 have d' : ∀ a, s'.a = some a → ∀ b, s2.a = some b → a.block ≠ b.block := fun a ha b hb e => by
  rcases d a ha with w | ⟨a0, w1, w2⟩
  ·have := (B.A2.lt b hb).1; omega
  ·exact B.ap a0 b w1 hb (by rw [← w2, e])
 refine ⟨s', ⟨⟨_, p2, g', .inr rfl, h2⟩, A', B.A2.chg c fun a ha w => ?_, B.A3.chg c fun a ha w => ?_, B.M.chg c hm.2 fun w => ?_, by have := B.lt; omega, by omega, fun a b ha hb => d' a ha b hb⟩, c⟩
 ·rcases w with w | ⟨a0, w1, w2⟩
  ·have := (B.A2.lt a ha).2; omega
  ·exact B.ap a0 a w1 ha w2.symm
 ·rcases w with w | w
  ·have := (B.A3.lt a ha).2; omega
  ·exact B.ne13 B.A1 ha w
 ·rcases w with w | w
  ·omega
  ·exact B.neM B.A1 w
theorem PB.put2 (B : PB H pb mb s1 s2 si lim q) (D : za_) (x : ByteArray) (hx : 2 * (q.2.1.length + x.size) ≤ 281474976710656) :
  Gx.Wp (zt_ k D (some ⟨pb, 0 + 3, none⟩) x H) fun z => ∃ s', PB z.2 pb mb s1 s' si lim (q.1, q.2.1 ++ bl x, q.2.2.1, q.2.2.2) ∧ Chg (fun y => y = pb ∨ ofS s2 y) H z.2 := by
 obtain ⟨p1, p2, g, h1, h2⟩ := B.g
 have hm := B.mlt
 refine .mono (wstr (o := 3) D g B.lt rfl h2 rfl ccT3 B.A2 (fun a ha e => by have := (B.A2.lt a ha).2; omega) (by have := B.lt; omega) x hx) fun z ⟨s', g', A', c, d, nx⟩ => ?_
 have d' : ∀ a, s'.a = some a → ∀ b, s1.a = some b → a.block ≠ b.block := fun a ha b hb e => by
  rcases d a ha with w | ⟨a0, w1, w2⟩
  ·have := (B.A1.lt b hb).1; omega
  ·exact B.ap b a0 hb w1 (by rw [← w2, e])
 refine ⟨s', ⟨⟨p1, _, g', h1, .inr rfl⟩, B.A1.chg c fun a ha w => ?_, A', B.A3.chg c fun a ha w => ?_, B.M.chg c hm.2 fun w => ?_, by have := B.lt; omega, by omega, fun a b ha hb e => d' b hb a ha e.symm⟩, c⟩
 ·rcases w with w | ⟨a0, w1, w2⟩
  ·have := (B.A1.lt a ha).2; omega
  ·exact B.ap a a0 ha w1 w2
 ·rcases w with w | w
  ·have := (B.A3.lt a ha).2; omega
  ·exact B.ne13 B.A2 ha w
 ·rcases w with w | w
  ·omega
  ·exact B.neM B.A2 w
def zxg_ : List UInt8 := [71, 82, 84, 80, 1]
def st0P : PSt := (zxg_, [], [], [])
theorem zJq_ (D : za_) {c : List Value} (g : H.get pb = some (.cells c 103 true 0)) (hl : pb < H.next) {v0 v1 v3 v4 v5 v6 : Value} (hc : c = [v0, v1, .int .i64 lim, v3, v4, v5, v6]) :
  Gx.Wp (zNc_ k D (some ⟨pb, 0, none⟩) H) fun z => ∃ mb s1, PB z.2 pb mb s1 ⟨none, 0, 0⟩ ⟨none, 0, 0⟩ lim st0P ∧ Chg (· = pb) H z.2 := by
 subst hc
 simp only [zNc_, zUc_]
 refine .bnd rfl (.call (P := fun z => z.2.get pb = some (.cells [.pointer none, .slice none 0 0, .int .i64 lim, v3, v4, v5, v6] 103 true 0) ∧ Chg (· = pb) H z.2 ∧ z.2.next = H.next) (.bnd rfl (Wp.st g (by simp) rfl fun h1 c1 n1 g1 => .bnd rfl (Wp.st g1 (by simp) rfl fun h2 c2 n2 g2 => .of ⟨g2, c1.trans c2, by show h2.next = _; omega⟩))) fun r1 ⟨g1, c1, n1⟩ => ?_)
 refine .bnd rfl (.call (P := fun z => z.2.get pb = some (.cells [.pointer none, .slice none 0 0, .int .i64 lim, .pointer none, .slice none 0 0, v5, v6] 103 true 0) ∧ Chg (· = pb) r1.2 z.2 ∧ z.2.next = r1.2.next) (.bnd rfl (Wp.st g1 (by simp) rfl fun h1 c1 n1 g1 => .bnd rfl (Wp.st g1 (by simp) rfl fun h2 c2 n2 g2 => .of ⟨g2, c1.trans c2, by show h2.next = _; omega⟩))) fun r4 ⟨g4, c4, n4⟩ => ?_)
 refine Wp.newE fun h5 e5 k5 n5 g5 => .bnd rfl ?_
 have gp5 := k5.got (show pb < r4.2.next by omega) g4
 refine Wp.st gp5 (by simp) rfl fun h7 c7 n7 g7 => .bnd rfl (Wp.st g7 (by simp) rfl fun h9 c9 n9 g9 => .bnd rfl ?_)
 have cz : Chg (· = pb) H h9 := (((c1.trans c4).trans (Chg.keeps k5)).trans c7).trans c9
 have gm : h9.get r4.2.next = some (.map [] 0) := c9.got (by omega) (show r4.2.next ≠ pb by omega) (c7.got (by omega) (show r4.2.next ≠ pb by omega) g5)
 have B : PB h9 pb r4.2.next ⟨none, 0, 0⟩ ⟨none, 0, 0⟩ ⟨none, 0, 0⟩ lim ([], [], [], []) :=
  ⟨⟨_, _, g9, .inl rfl, .inl rfl⟩, Acc.nil _ _ _ _, Acc.nil _ _ _ _, AccW.nil _ _ _ _ _, gm, by omega, by omega, fun a b ha => by cases ha⟩
 obtain ⟨p1, p2, g, h1, h2⟩ := B.g
 refine .call (P := fun z => ∃ s1, PB z.2 pb r4.2.next s1 ⟨none, 0, 0⟩ ⟨none, 0, 0⟩ lim st0P ∧ Chg (· = pb) H z.2) ?_ fun r11 ⟨s1, B', c'⟩ => .of ⟨_, s1, B', c'⟩
 refine .mono (wstr (o := 0) (s := ⟨none, 0, 0⟩) (l := []) D g B.lt rfl h1 rfl ccT0 B.A1 (fun a ha e => by cases ha) (by omega) ⟨#[71, 82, 84, 80, 1]⟩ (by decide)) fun z ⟨s', g', A', c, d, nx⟩ => ?_
 have c' : Chg (· = pb) h9 z.2 := c.wk fun y _ w => w.elim id fun ⟨a, ha, _⟩ => by cases ha
 refine ⟨s', ⟨⟨_, p2, g', .inr rfl, h2⟩, A', Acc.nil _ _ _ _, AccW.nil _ _ _ _ _, B.M.chg c' B.mlt.2 (by have := B.mlt; omega), by omega, by omega, fun a b ha hb => by cases hb⟩, cz.trans c'⟩
theorem zEr_ (D : za_) {h : AHeap} {lim : Int} :
  Gx.Wp (zLj_ k D lim h) fun z => zc_ h z.2 ∧ if 64 ≤ lim ∧ lim ≤ 65536 then z.1 = (some ⟨h.next, 0, none⟩, 0) ∧ ∃ mb s1, PB z.2 h.next mb s1 ⟨none, 0, 0⟩ ⟨none, 0, 0⟩ lim st0P else z.1 = (none, 1) := by
 simp only [zLj_]
 refine Wp.jn fun j4 h4 => ?_
 have bad : ∀ y, y = true → ¬ (64 ≤ lim ∧ lim ≤ 65536) → Gx.Wp (j4 lim y h) fun z => zc_ h z.2 ∧ if 64 ≤ lim ∧ lim ≤ 65536 then z.1 = (some ⟨h.next, 0, none⟩, 0) ∧ ∃ mb s1, PB z.2 h.next mb s1 ⟨none, 0, 0⟩ ⟨none, 0, 0⟩ lim st0P else z.1 = (none, 1) := fun y hy hn => by
  rw [h4]
  exact .ifp hy (.of ⟨Chg.refl _ _, by rw [if_neg hn]⟩)
 by_cases c1 : lim < 64
 ·exact .ifp (by simpa using c1) (bad true rfl (by omega))
 refine .ifn (by simpa using c1) ?_
 by_cases c2 : lim > 65536
 ·exact bad _ (by simpa using c2) (by omega)
 rw [h4]
 refine .ifn (by simpa using c2) (Wp.newE fun h5 e5 k5 n5 g5 => .call (zJq_ (lim := lim) D g5 (by omega) rfl) fun r6 ⟨mb, s1, B, c⟩ => .of ⟨k5.keepsS c fun y hy => by have hy : y = h.next := hy; omega, ?_⟩)
 rw [if_pos (by omega)]
 exact ⟨rfl, mb, s1, B⟩
end
def zbp_ (id : ByteArray) (c n m : Nat) : List UInt8 := bl id ++ (UInt8.ofNat c :: (leb n ++ leb m))
def zqd_ (q : PSt) (blobs more : Nat) : Nat := q.1.length + (leb blobs).length + q.2.1.length + more + 8
def itP (q : PSt) (c : Nat) (t : ByteArray) : It := (idB c (bl t), ⟨#[]⟩, (c : Int), (q.1.length : Int), ((encP c (bl t)).length : Int), (t.size : Int))
def zpb_ (c : Nat) (t : ByteArray) : List UInt8 := zbp_ (idB c (bl t)) c (encP c (bl t)).length t.size
def zMd_ (q : PSt) (c : Nat) (t : ByteArray) : Nat := zqd_ q (q.2.2.1.length + 1) ((encP c (bl t)).length + (zpb_ c t).length)
def tooP (lim : Int) (q : PSt) (c : Nat) (t : ByteArray) : Bool := decide ((lim < (zMd_ q c t : Int) ∧ 0 < q.2.2.1.length) ∨ 65536 < zMd_ q c t ∨ 4096 ≤ q.2.2.1.length)
def addQ (q : PSt) (c : Nat) (t : ByteArray) : PSt := (q.1 ++ encP c (bl t), q.2.1 ++ zpb_ c t, q.2.2.1 ++ [itP q c t], ptM (idB c (bl t)) t q.2.2.2.length q.2.2.2)
noncomputable def addV (lim : Int) (q : PSt) (c : Nat) (t : ByteArray) : (ByteArray × Int) × PSt :=
 match lkM (idB c (bl t)) q.2.2.2 with
 | some _ => ((⟨#[]⟩, 6), q)
 | none => if tooP lim q c t = true then ((⟨#[]⟩, 2), q) else ((idB c (bl t), 0), addQ q c t)
section
variable {k pb mb : Nat} {H H' : AHeap} {s1 s2 si : Slc} {lim : Int} {q : PSt}
theorem zni_ (D : za_) (hk : 20 ≤ k) (n : Nat) (hn : n < 9223372036854775808) (h : AHeap) : Gx.Wp (zTe_ k D (n : Int) h) fun z => z.1 = bA (leb n) ∧ zc_ h z.2 := by
 simp only [zTe_]
 exact .call (zjm_ D hk n hn h) fun r ⟨e, k1⟩ => .of ⟨by rw [e], k1⟩
theorem zpy_ (B : PB H pb mb s1 s2 si lim q) (D : za_) (hk : 20 ≤ k) {n m : Nat} (hn : n ≤ 1000000) (hm : m ≤ 1000000) (h1 : q.1.length ≤ 1000000) (h2 : q.2.1.length ≤ 1000000) :
  Gx.Wp (zve_ k D (some ⟨pb, 0, none⟩) (n : Int) (m : Int) H) fun z => z.1 = (zqd_ q n m : Int) ∧ zc_ H z.2 := by
 simp only [zve_]
 refine .bnd rfl (.bnd (B.len1 D) (.call (zni_ D hk n (by omega) H) fun r3 ⟨e3, k3⟩ => .bnd rfl (.bnd ((B.keeps k3).len2 D) (.of ⟨?_, k3⟩))))
 rw [e3]
 have ll : (leb n).length ≤ 4 := zJb_ 3 n (by omega)
 show IntKind.wrap .i64 (IntKind.wrap .i64 (IntKind.wrap .i64 (IntKind.wrap .i64 ((q.1.length : Int) + ((leb n).length : Int)) + (q.2.1.length : Int)) + (m : Int)) + 8) = _
 rw [Gx.w64 ((q.1.length : Int) + ((leb n).length : Int)) (by omega), Gx.w64 (((q.1.length : Int) + ((leb n).length : Int)) + (q.2.1.length : Int)) (by omega), Gx.w64 ((((q.1.length : Int) + ((leb n).length : Int)) + (q.2.1.length : Int)) + (m : Int)) (by omega), Gx.w64 _ (by omega)]
 unfold zqd_; omega
theorem PB.push (B : PB H pb mb s1 s2 si lim q) (x : It) (hl : q.2.2.1.length ≤ 100000) :
  ∃ s' h', zl_ 6 64 57 (H.new (.cells (itC x) 57 true 0)) si (itC x) 1 = some (s', h') ∧ ∃ h2, st1 ⟨pb, 0 + 5, none⟩ (.slice s'.a s'.len s'.cap) h' = some h2 ∧ PB h2 pb mb s1 s2 s' lim (q.1, q.2.1, q.2.2.1 ++ [x], q.2.2.2) ∧ Chg (fun y => y = pb ∨ ofS si y) H h2 := by
 have hm := B.mlt
 have hlt := B.lt
 obtain ⟨s', h', a, A', c, d⟩ := B.A3.push zG_ zep_ x (bytes := 64) (by decide) (by omega) (by omega)
 have nx := c.nx
 obtain ⟨p1, p2, g, h1, h2⟩ := B.g
 have no : ∀ y, ofS si y → pb + 1 ≤ y ∧ y < H.next ∧ ∃ cc, H.get y = some (.cells cc 57 true 0) := fun y ⟨b, hb, e⟩ => by
  have := B.A3.lt b hb
  exact ⟨by omega, by omega, by rw [e]; exact zbg_ B.A3 hb⟩
 have g' := c.got hlt (fun w => by have := no _ w; omega) g
 have n1 : ∀ {s : Slc} {l : List UInt8} {z : Addr}, Acc encB 5 (pb + 1) H s l → s.a = some z → ¬ ofS si z.block := fun A hz w => by
  obtain ⟨_, _, cc, gg⟩ := no _ w
  obtain ⟨c1, g1⟩ := zsd_ A hz
  rw [g1] at gg; cases gg
 refine ⟨s', h', a, _, zpc_ g' (by simp [zGu_]) rfl, ⟨⟨p1, p2, by simp [zGu_], h1, h2⟩, (B.A1.chg c fun z hz => n1 B.A1 hz).chg (S := (· = pb)) (Chg.set (.inr rfl)) fun z hz e => by have := (B.A1.lt z hz).2; have e : z.block = pb := e; omega,
  (B.A2.chg c fun z hz => n1 B.A2 hz).chg (S := (· = pb)) (Chg.set (.inr rfl)) fun z hz e => by have := (B.A2.lt z hz).2; have e : z.block = pb := e; omega,
  A'.chg (S := (· = pb)) (Chg.set (.inr rfl)) fun z hz e => by have := (A'.lt z hz).2; have e : z.block = pb := e; omega,
  (B.M.chg c hm.2 fun w => ?_).chg (S := (· = pb)) (Chg.set (.inr rfl)) (by omega) (by omega), by show pb < h'.next; omega, by show pb < mb ∧ mb < h'.next; omega, B.ap⟩, ?_⟩
 ·obtain ⟨_, _, cc, gg⟩ := no _ w
  have g2 : H.get mb = some (.map _ _) := B.M
  rw [gg] at g2; cases g2
 ·exact Chg.trans (c.wk fun y _ w => .inr w) (Chg.set (.inr (.inl rfl)))
theorem PB.upd (B : PB H pb mb s1 s2 si lim q) (id t : ByteArray) : ∃ h', updE H mb (.string id) (.string t) = some h' ∧ PB h' pb mb s1 s2 si lim (q.1, q.2.1, q.2.2.1, ptM id t q.2.2.2.length q.2.2.2) ∧ Chg (· = mb) H h' := by
 have hm := B.mlt
 have hlt := B.lt
 obtain ⟨h', u1, u2, u3, u4⟩ := B.M.upd (n := id) (fun e _ => zeh_ id e.1) t
 obtain ⟨p1, p2, g, h1, h2⟩ := B.g
 have nM : ∀ {z : Nat} {c : List Value} {e : TypeId}, H.get z = some (.cells c e true 0) → ¬ z = mb := fun g w => by
  have g2 : H.get mb = some (.map _ _) := B.M
  rw [← w, g] at g2; cases g2
 refine ⟨h', u1, ⟨⟨p1, p2, u3.got hlt (by omega) g, h1, h2⟩, B.A1.chg u3 fun z hz => ?_, B.A2.chg u3 fun z hz => ?_, B.A3.chg u3 fun z hz => ?_, u2, by omega, by omega, B.ap⟩, u3⟩
 ·obtain ⟨c, g⟩ := zsd_ B.A1 hz; exact nM g
 ·obtain ⟨c, g⟩ := zsd_ B.A2 hz; exact nM g
 ·obtain ⟨c, g⟩ := zbg_ B.A3 hz; exact nM g
theorem zYD_ (a : ByteArray) (b c d e : Int) : decC [.s, .i .i64, .i .i64, .i .i64, .i .i64] [.string a, .int .i64 b, .int .i64 c, .int .i64 d, .int .i64 e] = some (a, b, c, d, e) := rfl
theorem zSl_ (B : PB H pb mb s1 s2 si lim q) (D : za_) (kg : KG 0 H) (hk : 1200000 ≤ k) {c : Nat} (hc : c = 1 ∨ c = 2) {t : ByteArray} (ht : t.size ≤ 65536) (hq1 : q.1.length ≤ 65536) (hq2 : q.2.1.length ≤ 65536) (hq3 : q.2.2.1.length ≤ 4096) :
  Gx.Wp (zHc_ k D (some ⟨pb, 0, none⟩) (c : Int) t H) fun z => z.1 = (addV lim q c t).1 ∧ ∃ s1' s2' si', PB z.2 pb mb s1' s2' si' lim (addV lim q c t).2 ∧ Chg (OwnP pb mb s1 s2 si) H z.2 := by
 simp only [zHc_]
 have hn : isK (c : Int) = true := by unfold isK; simp only [decide_eq_true_eq]; omega
 have bt : (bl t).length = t.size := zh_ t
 obtain ⟨el1, el2⟩ := zZh_ (c := c) (t := bl t) (by omega)
 refine .call (zlu_ D hk) fun r1 ⟨q1, k1⟩ => ?_
 rw [zRu_ hn (by omega), Int.toNat_natCast] at q1
 rw [q1]
 refine .ifn (by simp) (.call (zBq_ D (kg.chg k1 fun f => f) (by omega) (by omega) (by omega)) fun r2 ⟨q2, k2⟩ => ?_)
 rw [zpp_ hn, Int.toNat_natCast] at q2
 rw [q2]
 have k12 := k1.trans k2
 have B2 := B.keeps k12
 obtain ⟨s, es⟩ : ∃ s : List UInt8, s = encP c (bl t) := ⟨_, rfl⟩
 have ss : (⟨⟨s⟩⟩ : ByteArray).size = s.length := zXb_ _
 rw [← es] at el1 el2
 have lk := B2.M.look (n := idB c (bl t)) (fun e _ => zeh_ _ e.1) (dec := decS) (dv := fun v : ByteArray => v) (fun v => rfl) (z := .string ⟨#[]⟩) (z0 := ⟨#[]⟩) rfl
 refine .bnd rfl (.bnd B2.ldm (.bnd lk ?_))
 unfold addV
 cases hl : lkM (idB c (bl t)) q.2.2.2 with
 | some v =>
  refine .ifp rfl (.of ⟨rfl, s1, s2, si, B2, Chg.keeps k12⟩)
 | none =>
  refine .ifn (by decide) ?_
  dsimp only
  rw [← es]
  obtain ⟨h6, e6⟩ : ∃ h6, h6 = AHeap.resv r2.2 1 := ⟨_, rfl⟩
  have k6 : zc_ r2.2 h6 := ⟨by rw [e6]; show r2.2.next ≤ r2.2.next + 1; omega, fun b hb _ => by rw [e6]; rfl⟩
  rw [← e6]
  refine .call (zni_ D (by omega) s.length (by omega) h6) fun r7 ⟨q7, k7⟩ => .call (zni_ D (by omega) t.size (by omega) r7.2) fun r8 ⟨q8, k8⟩ => ?_
  rw [zuy_ hn, Int.toNat_natCast, q7, q8]
  have k28 : zc_ r2.2 r8.2 := (k6.trans k7).trans k8
  obtain ⟨h9, e9⟩ : ∃ h9, h9 = AHeap.set r8.2 (r2.2.next + 0) (.cells [encB (UInt8.ofNat c)] 5 true 0) := ⟨_, rfl⟩
  have g9 : h9.get (r2.2.next + 0) = some (.cells [encB (UInt8.ofNat c)] 5 true 0) := by rw [e9]; simp
  have k9 : zc_ r2.2 h9 := by rw [e9]; exact zc_.set k28 (by omega)
  rw [← e9]
  have ob : zeb_ h9 ⟨some ⟨r2.2.next + 0, 0, some 0⟩, 1, 1⟩ = some ⟨⟨[UInt8.ofNat c]⟩⟩ := zud_ (l := [UInt8.ofNat c]) g9
  have l7 : (leb s.length).length ≤ 4 := zJb_ 3 s.length (by omega)
  have l8 : (leb t.size).length ≤ 4 := zJb_ 3 t.size (by omega)
  have ln : ((idB c (bl t) ++ (⟨⟨[UInt8.ofNat c]⟩⟩ : ByteArray)) ++ bA (leb s.length)) ++ bA (leb t.size) = ⟨⟨zpb_ c t⟩⟩ := by
   apply zSf_
   rw [zre_]
   unfold zpb_ zbp_
   rw [← es]
   simp [bl, bA]
  have lls : (zpb_ c t).length = 33 + (leb s.length).length + (leb t.size).length := by
   unfold zpb_ zbp_
   rw [← es]
   simp only [List.length_append, List.length_cons]
   have : (bl (idB c (bl t))).length = 32 := rfl
   omega
  refine .bnd ob (.gp ⟨_, g9, fun H0 hH => bnd (show zeb_ H0 ⟨some ⟨r2.2.next + 0, 0, some 0⟩, 1, 1⟩ = some ⟨⟨[UInt8.ofNat c]⟩⟩ from zud_ (l := [UInt8.ofNat c]) hH) rfl⟩ ?_)
  have i32 : (idB c (bl t)).size = 32 := rfl
  refine .ifp (show 32 + 1 ≤ _ by omega) (.ifp (show ((idB c (bl t) ++ (⟨⟨[UInt8.ofNat c]⟩⟩ : ByteArray)).size + (bA (leb s.length)).size ≤ _) by rw [ByteArray.size_append]; show 32 + 1 + (leb s.length).length ≤ _; omega)
   (.ifp (show (((idB c (bl t) ++ (⟨⟨[UInt8.ofNat c]⟩⟩ : ByteArray)) ++ bA (leb s.length)).size + (bA (leb t.size)).size ≤ _) by rw [ByteArray.size_append, ByteArray.size_append]; show 32 + 1 + (leb s.length).length + (leb t.size).length ≤ _; omega) ?_))
  rw [ln]
  have B9 := B2.keeps k9
  have kz := k12.trans k9
  refine .bnd rfl (.bnd B9.ld3 ?_)
  have sil : si.len = q.2.2.1.length := (B9.A3.row zG_).len
  rw [sil, Gx.w1 (by omega), show (⟨⟨zpb_ c t⟩⟩ : ByteArray).size = (zpb_ c t).length from zXb_ _, ss, show IntKind.wrap .i64 ((s.length : Int) + ((zpb_ c t).length : Int)) = ((s.length + (zpb_ c t).length : Nat) : Int) by rw [Gx.w64 _ (by omega)]; omega]
  refine .call (zpy_ B9 D (by omega) (by omega) (by omega) (by omega) (by omega)) fun r16 ⟨q16, k16⟩ => Wp.jn fun j25 h25 => ?_
  have eL : zqd_ q (q.2.2.1.length + 1) (s.length + (zpb_ c t).length) = zMd_ q c t := by unfold zMd_; rw [← es]
  rw [eL] at q16
  rw [q16]
  have B16 := B9.keeps k16
  have kH16 := kz.trans k16
  have J : ∀ y, y = tooP lim q c t → Gx.Wp (j25 (some ⟨pb, 0, none⟩) (c : Int) t (idB c (bl t)) ⟨⟨s⟩⟩ ⟨⟨zpb_ c t⟩⟩ y r16.2) fun z => z.1 = (if tooP lim q c t = true then (((⟨#[]⟩ : ByteArray), (2 : Int)), q) else ((idB c (bl t), 0), addQ q c t)).1 ∧ ∃ s1' s2' si', PB z.2 pb mb s1' s2' si' lim (if tooP lim q c t = true then (((⟨#[]⟩ : ByteArray), (2 : Int)), q) else ((idB c (bl t), 0), addQ q c t)).2 ∧ Chg (OwnP pb mb s1 s2 si) H z.2 := fun y hy => by
   rw [h25]
   cases hT : tooP lim q c t with
   | true => exact .ifp (hy.trans hT) (.of ⟨rfl, s1, s2, si, B16, Chg.keeps kH16⟩)
   | false =>
    have hbig : zMd_ q c t ≤ 65536 ∧ q.2.2.1.length < 4096 := by
     unfold tooP at hT
     simp only [decide_eq_false_iff_not] at hT
     omega
    have hlong : q.1.length + q.2.1.length + s.length + (zpb_ c t).length ≤ 65536 := by
     have := hbig.1
     unfold zMd_ zqd_ at this
     rw [← es] at this
     omega
    refine .ifn (by rw [hy, hT]; decide) (.bnd rfl (.bnd (B16.len1 D) (Wp.newE fun h28 e28 k28' n28 g28 => Wp.stL g28 rfl rfl rfl (by decide) fun h29 c29 n29 g29 => ?_)))
    have k29 : zc_ r16.2 h29 := k28'.keepsS c29 fun y hy => by have hy : y = r16.2.next := hy; omega
    have B29 := B16.keeps k29
    refine .bnd (zA_ g29 rfl) (.bnd (zYD_ _ _ _ _ _) (Wp.newE fun h32 e32 k32 n32 g32 => ?_))
    obtain ⟨x, ex⟩ : ∃ x : It, x = itP q c t := ⟨_, rfl⟩
    have exc : itC x = [.string (idB c (bl t)), .string ⟨#[]⟩, .int .i64 (c : Int), .int .i64 (q.1.length : Int), .int .i64 (s.length : Int), .int .i64 (t.size : Int)] := by rw [ex, es]; rfl
    have e32' : h32 = h29.new (.cells (itC x) 57 true 0) := by rw [e32, exc]; rfl
    have B32 := B29.keeps k32
    refine .bnd rfl (.bnd B32.ld3 (.gp (ssw1 (by dsimp only; rw [B29.ld3]; rfl)) ?_))
    obtain ⟨s', h', a, h2, b, B2', c2'⟩ := B29.push x (by omega)
    rw [← e32'] at a
    have er : Gx.rdS 6 ⟨some ⟨h29.next, 0, some 0⟩, 1, 1⟩ h32 = some (itC x) := by rw [e32']; exact zTg_ zG_ x 57
    refine .bnd er (.bnd a (.bnd rfl (.bnd b (.bnd rfl (.bnd B2'.ldm (.bnd rfl ?_))))))
    obtain ⟨h43, u, B43, c43⟩ := B2'.upd (idB c (bl t)) t
    refine .bnd u (.bnd rfl (.call (B43.put1 D ⟨⟨s⟩⟩ (by rw [ss]; show 2 * (q.1.length + s.length) ≤ _; omega)) fun r46 ⟨s1', B46, c46⟩ => .bnd rfl (.call (B46.put2 D ⟨⟨zpb_ c t⟩⟩ (by rw [zXb_]; show 2 * (q.2.1.length + (zpb_ c t).length) ≤ _; omega)) fun r48 ⟨s2', B48, c48⟩ => .of ⟨rfl, s1', s2', s', ?_, ?_⟩)))
    ·rw [zre_, zre_] at B48
     have : (addQ q c t) = (q.1 ++ s, q.2.1 ++ zpb_ c t, q.2.2.1 ++ [x], ptM (idB c (bl t)) t q.2.2.2.length q.2.2.2) := by unfold addQ; rw [ex, es]
     rw [if_neg (by decide), this]
     exact B48
    ·exact ((((Chg.keeps (kH16.trans k29)).trans (c2'.wk fun y _ w => w.elim .inl fun w => .inr (.inr (.inr (.inr w))))).trans (c43.wk fun y _ w => .inr (.inl w))).trans (c46.wk fun y _ w => w.elim .inl fun w => .inr (.inr (.inl w)))).trans (c48.wk fun y _ w => w.elim .inl fun w => .inr (.inr (.inr (.inl w))))
  have eT : tooP lim q c t = decide ((lim < (zMd_ q c t : Int) ∧ 0 < q.2.2.1.length) ∨ 65536 < zMd_ q c t ∨ 4096 ≤ q.2.2.1.length) := rfl
  refine .bnd rfl (.bnd B16.ldl ?_)
  by_cases c1 : (zMd_ q c t : Int) > lim
  ·refine .ifp (by simpa using c1) (.bnd rfl (.bnd B16.ld3 ?_))
   rw [sil]
   by_cases c2 : 0 < q.2.2.1.length
   ·exact .ifp (decide_eq_true (show ((q.2.2.1.length : Int) > 0) by omega)) (J _ (by rw [eT, decide_eq_true (.inl ⟨c1, c2⟩)]))
   ·refine .ifn (fun w => by have w : ((q.2.2.1.length : Int) > 0) := of_decide_eq_true w; omega) ?_
    by_cases c3 : 65536 < zMd_ q c t
    ·exact .ifp (by simp; omega) (J _ (by rw [eT, decide_eq_true (.inr (.inl c3))]))
    ·refine .ifn (by simp; omega) (.bnd rfl (.bnd B16.ld3 (J _ ?_)))
     rw [eT, sil]
     apply decide_eq_decide.2
     omega
  ·refine .ifn (by simpa using c1) ?_
   by_cases c3 : 65536 < zMd_ q c t
   ·exact .ifp (by simp; omega) (J _ (by rw [eT, decide_eq_true (.inr (.inl c3))]))
   ·refine .ifn (by simp; omega) (.bnd rfl (.bnd B16.ld3 (J _ ?_)))
    rw [eT, sil]
    apply decide_eq_decide.2
    omega
end
theorem bstr {k pb o base : Nat} {H : AHeap} {c : List Value} {e : TypeId} {s : Slc} {l : List UInt8} (D : za_) (g : H.get pb = some (.cells c e true 0)) (hs : c[o + 1]? = some (.slice s.a s.len s.cap)) (A : Acc encB 5 base H s l) (hl : l.length < 9223372036854775808) :
  Gx.Wp (zK_ k D (some ⟨pb, o, none⟩) H) fun z => z.1 = bA l ∧ Chg (ofS s) H z.2 ∧ z.2.next = H.next := by
 simp only [zK_]
 have hsl : s.len = l.length := A.row.1
 have gl : ldL ⟨pb, o + 1, none⟩ H = some s := zB_ g hs
 rcases A.st with ⟨rfl, rfl⟩ | ⟨b, gg⟩
 ·refine .bnd rfl (.bnd gl (.bnd rfl (.bnd rfl (.bnd gl (.bnd (show unsA 5 none ((0 : Nat) : Int) H = some (⟨#[]⟩, H) from rfl) (.of ⟨rfl, .refl _ _, rfl⟩))))))
 ·have gb : H.get b = some (.cells (l.map encB) 5 true 0) := gg.blk
  have hp : 0 < l.length := List.length_pos_iff.2 gg.ne
  have e1 : zYj_ s = some (some ⟨b, 0, none⟩) := by
   rw [gg.s]
   unfold zYj_
   have : Nat.beq l.length 0 = false := by
    cases c : Nat.beq l.length 0 with
    | false => rfl
    | true => have := Nat.eq_of_beq_eq_true c; omega
   simp only [this, cond_false]
  have e2 : unsA 5 (some ⟨b, 0, none⟩) (s.len : Int) H = some (bA l, H.set b (.cells (l.map encB) 5 true (max 0 l.length))) := by
   unfold unsA
   rw [hsl, if_neg (by omega)]
   simp only [gb]
   rw [if_pos ⟨trivial, by omega, by omega, trivial, by simp, by omega⟩, Int.toNat_natCast, List.take_of_length_le (by simp), zHn_]
   rfl
  exact .bnd rfl (.bnd gl (.bnd e1 (.bnd rfl (.bnd gl (.bnd e2 (.of ⟨rfl, Chg.set (.inr ⟨⟨b, 0, some 2⟩, by rw [gg.s], rfl⟩), rfl⟩))))))
def endB : List UInt8 := [80, 69, 78, 68]
def dirB (q : PSt) : List UInt8 := leb q.2.2.1.length ++ q.2.1
def finB (q : PSt) : List UInt8 := q.1 ++ (dirB q ++ (Gg.B.fixL (dirB q).length 4 ++ endB))
def setP (id : ByteArray) (x : It) : It := (x.1, id, x.2.2)
noncomputable def finI (q : PSt) : List It := q.2.2.1.map (setP ⟨⟨zKi_ (finB q)⟩⟩)
theorem zus_ (id : ByteArray) : ∀ (xs : List It) (i : Nat) (x : It), xs[i]? = some x → (xs.flatMap itC).set (i * 6 + 1) (.string id) = (xs.set i (setP id x)).flatMap itC
 | [], i, x, h => by simp at h
 | y :: ys, 0, x, h => by simp at h; subst h; rfl
 | y :: ys, i + 1, x, h => by
  rw [List.flatMap_cons, List.set_cons_succ, List.flatMap_cons, List.set_append_right _ _ (by rw [zG_]; omega), zG_, show (i + 1) * 6 + 1 - 6 = i * 6 + 1 by omega, zus_ id ys i x (by simpa using h)]
section
variable {k pb mb : Nat} {H H' : AHeap} {s1 s2 si : Slc} {lim : Int} {q : PSt}
theorem zhB_ (D : za_) {j20 : (Option Addr) → ByteArray → Slc → AHeap → Option ((ByteArray × Slc) × AHeap)} {Q : (ByteArray × Slc) × AHeap → Prop} {b : Option Addr} {s id : ByteArray} {h0 : AHeap} {ib : Nat} {its : List It} (hl : its.length ≤ 100000) (bot) :
  ∀ (d i : Nat) (H : AHeap), i + d = its.length → H.get ib = some (.cells (((its.take i).map (setP id) ++ its.drop i).flatMap itC) 57 true 0) → Chg (· = ib) h0 H → H.next = h0.next →
  (∀ H', H'.get ib = some (.cells ((its.map (setP id)).flatMap itC) 57 true 0) → Chg (· = ib) h0 H' → H'.next = h0.next → Gx.Wp (j20 b s ⟨some ⟨ib, 0, some 7⟩, its.length, its.length⟩ H') Q) →
  Gx.Wp (zi_ bot (d + 1) (zac_ k D j20) b s ⟨some ⟨ib, 0, some 7⟩, its.length, its.length⟩ id (its.length : Int) (i : Int) H) Q := by
 intro d
 induction d with
 | zero =>
  intro i H hd g c n J
  rw [zg_]; simp only [zac_]
  refine .ifn (by simp; omega) (J H ?_ c n)
  rw [List.take_of_length_le (by omega), List.drop_of_length_le (by omega), List.append_nil] at g
  exact g
 | succ d ih =>
  intro i H hd g c n J
  rw [zg_]; simp only [zac_]
  obtain ⟨x, hx⟩ := zv_ (l := its) (i := i) (by omega)
  have ei : idxL 6 (⟨some ⟨ib, 0, some 7⟩, its.length, its.length⟩ : Slc) (i : Int) = some ⟨ib, i * 6, none⟩ := by
   simp only [idxL]
   rw [if_pos (by omega), Int.toNat_natCast, Nat.zero_add]
  refine .ifp (by simp; omega) (.bnd ei ?_)
  have hL : ((its.take i).map (setP id) ++ its.drop i)[i]? = some x := by
   have l1 : ((its.take i).map (setP id)).length = i := by rw [List.length_map, List.length_take]; omega
   rw [List.getElem?_append_right (by rw [l1]; exact Nat.le_refl _), l1, Nat.sub_self, List.getElem?_drop, Nat.add_zero]
   exact hx
  have hset := zus_ id _ i x hL
  have hn : ((its.take i).map (setP id) ++ its.drop i).set i (setP id x) = (its.take (i + 1)).map (setP id) ++ its.drop (i + 1) := by
   have l1 : ((its.take i).map (setP id)).length = i := by rw [List.length_map, List.length_take]; omega
   rw [List.set_append_right _ _ (by rw [l1]; exact Nat.le_refl _), l1, Nat.sub_self, zKd_ hx, List.set_cons_zero, List.take_add_one, hx, List.map_append, List.append_assoc]
   rfl
  refine Wp.st g ?_ rfl fun H1 c1 n1 g1 => ?_
  ·rw [zQf_ zG_, List.length_append, List.length_map, List.length_take, List.length_drop]
   show i * 6 + 1 + 0 < _
   rw [show min i its.length + (its.length - i) = its.length by omega]; omega
  ·rw [Nat.add_zero, hset, hn] at g1
   rw [Gx.w1 (by omega)]
   exact ih (i + 1) H1 (by omega) g1 (c.trans c1) (by omega) J
theorem zTk_ (B : PB H pb mb s1 s2 si lim q) (D : za_) (kg : KG 0 H) (hp : 0 < pb) (hk : 1200000 ≤ k) (hq1 : q.1.length ≤ 65536) (hq2 : q.2.1.length ≤ 65536) (hq3 : q.2.2.1.length ≤ 4096) :
  Gx.Wp (zec_ k D (some ⟨pb, 0, none⟩) H) fun z =>
   if q.2.2.1 = [] then z.1 = (⟨#[]⟩, ⟨none, 0, 0⟩) ∧ z.2 = H
   else z.1 = (⟨⟨finB q⟩⟩, si) ∧ AccW 6 itC 57 (pb + 1) z.2 si (finI q) ∧ (∃ mb' s1', PB z.2 pb mb' s1' ⟨none, 0, 0⟩ ⟨none, 0, 0⟩ lim st0P) ∧ Chg (OwnP pb mb s1 s2 si) H z.2 := by
 simp only [zec_]
 have sil : si.len = q.2.2.1.length := (B.A3.row zG_).len
 refine .bnd rfl (.bnd B.ld3 ?_)
 rw [sil]
 by_cases c0 : q.2.2.1 = []
 ·refine .ifp (by rw [c0]; rfl) (.of ?_)
  rw [if_pos c0]; exact ⟨rfl, rfl⟩
 have hlen : 0 < q.2.2.1.length := List.length_pos_iff.2 c0
 refine .ifn (fun w => absurd (eq_of_beq w) (by omega)) ?_
 suffices hh : Gx.Wp _ fun z : (ByteArray × Slc) × AHeap => z.1 = (⟨⟨finB q⟩⟩, si) ∧ AccW 6 itC 57 (pb + 1) z.2 si (finI q) ∧ (∃ mb' s1', PB z.2 pb mb' s1' ⟨none, 0, 0⟩ ⟨none, 0, 0⟩ lim st0P) ∧ Chg (OwnP pb mb s1 s2 si) H z.2 from hh.mono fun z hz => by rw [if_neg c0]; exact hz
 refine .bnd rfl (.bnd B.ld3 ?_)
 rw [sil]
 have ll : (leb q.2.2.1.length).length ≤ 4 := zJb_ 3 _ (by omega)
 refine .call (zni_ D (by omega) q.2.2.1.length (by omega) H) fun r5 ⟨q5, k5⟩ => ?_
 have B5 := B.keeps k5
 obtain ⟨p1, p2, g5, h1, h2⟩ := B5.g
 refine .bnd rfl (.call (bstr (o := 3) D g5 rfl B5.A2 (by omega)) fun r7 ⟨q7, c7, n7⟩ => ?_)
 have lt5 := B5.lt
 have g7 := c7.got lt5 (fun ⟨a, ha, e⟩ => by have := (B5.A2.lt a ha).2; omega) g5
 have A17 : Acc encB 5 (pb + 1) r7.2 s1 q.1 := B5.A1.chg c7 fun a ha ⟨b, hb, e⟩ => B5.ap a b ha hb e
 have A37 : AccW 6 itC 57 (pb + 1) r7.2 si q.2.2.1 := B5.A3.chg c7 fun a ha => B5.ne13 B5.A2 ha
 have ed : r5.1 ++ r7.1 = ⟨⟨dirB q⟩⟩ := by rw [q5, q7]; exact Gg.B.ba_app _ _
 have ld : (dirB q).length = (leb q.2.2.1.length).length + q.2.1.length := List.length_append
 refine .ifp (by rw [q5, q7]; show (leb q.2.2.1.length).length + q.2.1.length ≤ _; omega) ?_
 rw [ed, show (⟨⟨dirB q⟩⟩ : ByteArray).size = (dirB q).length from zXb_ _]
 obtain ⟨h8, e8, k8⟩ := Gg.B.nfix_spec (kf := k) (by omega) D (dirB q).length 4 r7.2 (by omega) (by omega) (by omega)
 rw [if_pos (by omega)] at e8
 refine .bnd e8 ?_
 have g8 := k8.got (by omega) g7
 have A18 := A17.keeps k8
 have A38 := A37.keeps k8
 refine .bnd rfl (.call (bstr (o := 0) D g8 rfl A18 (by omega)) fun r10 ⟨q10, c10, n10⟩ => ?_)
 have n8 := k8.nx
 have n10 : r10.2.next = h8.next := n10
 have n8' : r7.2.next ≤ h8.next := n8
 have g10 := c10.got (show pb < h8.next by omega) (fun ⟨a, ha, e⟩ => by have := (A18.lt a ha).2; omega) g8
 have A310 : AccW 6 itC 57 (pb + 1) r10.2 si q.2.2.1 := A38.chg c10 fun a ha ⟨b, hb, e⟩ => by
  obtain ⟨c1, g1⟩ := zsd_ A18 hb
  obtain ⟨c2, g2⟩ := zbg_ A38 ha
  rw [e, g1] at g2; cases g2
 have fl : (Gg.B.fixL (dirB q).length 4).length = 4 := Gg.B.fixL_length _ _
 have ef : ((r10.1 ++ (⟨⟨dirB q⟩⟩ : ByteArray)) ++ (⟨⟨Gg.B.fixL (dirB q).length 4⟩⟩ : ByteArray)) ++ (⟨#[80, 69, 78, 68]⟩ : ByteArray) = ⟨⟨finB q⟩⟩ := by
  rw [q10]
  apply zSf_
  rw [zre_]
  unfold finB
  simp [bl, bA, endB]
 refine .ifp (by rw [q10]; show q.1.length + (dirB q).length ≤ _; omega) (.ifp (by rw [q10, ByteArray.size_append]; show q.1.length + (dirB q).length + (Gg.B.fixL (dirB q).length 4).length ≤ _; omega)
  (.ifp (by rw [q10, ByteArray.size_append, ByteArray.size_append]; show q.1.length + (dirB q).length + (Gg.B.fixL (dirB q).length 4).length + 4 ≤ _; omega) ?_))
 dsimp only
 rw [ef]
 have lF : (finB q).length = q.1.length + ((dirB q).length + (4 + 4)) := by unfold finB; simp only [List.length_append, fl]; rfl
 refine Wp.newE fun h12 e12 k12 n12 g12 => ?_
 have R12 : Row encS h12 ⟨some ⟨r10.2.next, 0, some 0⟩, 1, 1⟩ [⟨⟨finB q⟩⟩] := Row.of_block (enc := encS) (xs := [⟨⟨finB q⟩⟩]) g12 (by omega) fun i z hz => by
  match i with
  | 0 => simp at hz; subst hz; rfl
  | i + 1 => simp at hz
 have kg12 : KG 0 h12 := by
  refine KG.chg (KG.chg (KG.chg (KG.chg (KG.chg kg k5 fun f => f) c7 fun ⟨a, ha, e⟩ => ?_) k8 fun f => f) c10 fun ⟨a, ha, e⟩ => ?_) k12 fun f => f
  ·have := (B5.A2.lt a ha).2; omega
  ·have := (A18.lt a ha).2; omega
 have ec : Gg.B.catL [(⟨⟨finB q⟩⟩ : ByteArray)] = finB q := by simp [Gg.B.catL, bl]
 refine .call (Gg.B.sum_spec (by omega) D kg12 R12 (by rw [ec]; omega) (by rw [ec]; omega) (by simp; omega) (by simp)) fun r13 ⟨q13, k13⟩ => ?_
 rw [ec] at q13
 have g13 := zc_.got (k12.trans k13) (by omega) g10
 have A313 := A310.keeps (k12.trans k13)
 refine .bnd rfl (.bnd (zB_ g13 rfl) (Wp.jn fun j20 h20 => ?_))
 rw [q13, show (⟨si.a, si.len, si.cap⟩ : Slc) = si from rfl, sil]
 rcases A313.st with ⟨_, w⟩ | ⟨ib, e1, e2, e3⟩
 ·exact absurd w c0
 have hib := A313.lt ⟨ib, 0, some 7⟩ (by rw [e1])
 rw [e1]
 unfold zog_
 obtain ⟨bot, eb⟩ := zq_ (fun _ _ _ _ _ _ _ => none) (zac_ k D j20) (show q.2.2.1.length + 1 ≤ k by omega)
 rw [eb, show (0 : Int) = ((0 : Nat) : Int) from rfl]
 have n12' := k12.nx
 have n13 := k13.nx
 refine zhB_ D (h0 := r13.2) (by omega) bot q.2.2.1.length 0 r13.2 (by omega) (by rw [List.take_zero, List.map_nil, List.nil_append, List.drop_zero]; exact e2) (Chg.refl _ _) rfl fun H' g' c' n' => ?_
 rw [h20]
 have gp := c'.got (by omega) (by have := hib.2; show ¬ pb = ib; simp only [] at this; omega) g13
 refine .call (zJq_ (lim := lim) D gp (by omega) rfl) fun r21 ⟨mb', s1', B', c21⟩ => .of ⟨rfl, ⟨.inr ⟨ib, by simp [finI], ?_, by simp [finI, c0]⟩, fun a ha => ?_⟩, ⟨mb', s1', B'⟩, ?_⟩
 ·have hib2 := hib.2
  simp only [] at hib2
  exact c21.got (by have := hib.1; simp only [] at this; omega) (show ¬ ib = pb by omega) g'
 ·cases ha
  have n21 := c21.nx
  have := hib.1; have := hib.2
  simp only [] at *
  omega
 ·exact ((((((Chg.keeps k5).trans (c7.wk fun y _ w => .inr (.inr (.inr (.inl w))))).trans (Chg.keeps k8)).trans (c10.wk fun y _ w => .inr (.inr (.inl w)))).trans (Chg.keeps (k12.trans k13))).trans (c'.wk fun y _ w => .inr (.inr (.inr (.inr ⟨⟨ib, 0, some 7⟩, rfl, w⟩))))).trans (c21.wk fun y _ w => .inl w)
end
section
variable {k : Nat} {h : AHeap}
def q14 : PSt := addQ st0P 1 ⟨#[97, 98]⟩
theorem leb1 : (leb 1).length = 1 := by rw [zIh_ (by omega)]; rfl
end
end Gg
namespace Gg
open Go Gx
end Gg
namespace Gg.B
open Go Gx
def Rdr (h : AHeap) (b : Nat) (s : ByteArray) (e : Int) : Prop := h.get b = some (.cells [.string s, .int .i64 e] 154 true 0)
theorem Rdr.chg {S : Nat → Prop} {h h' : AHeap} {b : Nat} {s : ByteArray} {e : Int} (R : Rdr h b s e) (c : Chg S h h') (hb : ¬ S b) (hl : b < h.next) : Rdr h' b s e := (c.oth b hl hb).trans R
def zIr_ (b : Nat) : Nat → Prop := fun x => x = b
theorem read_spec (k : Nat) (D : za_) (s : ByteArray) (h : AHeap) : zDf_ k D s h = some (some ⟨h.next, 0, none⟩, h.new (.cells [.string s, .int .i64 0] 154 true 0)) := rfl
theorem zzf_ (k : Nat) (D : za_) {h : AHeap} {b : Nat} {s : ByteArray} {e : Int} (R : Rdr h b s e) (c : Int) :
  ∃ h', zob_ k D (some ⟨b, 0, none⟩) c h = some ((), h') ∧ Rdr h' b s (if e = 0 then c else e) ∧ Chg (zIr_ b) h h' := by
 simp only [zob_, Option.bind_some]
 by_cases he : e = 0
 ·subst he
  refine ⟨h.set b (.cells [.string s, .int .i64 c] 154 true 0), ?_, by simp [Rdr], Chg.set (.inr rfl)⟩
  refine bnd (zao_ R rfl) ?_
  refine ifp (by decide) ?_
  refine bnd (zpc_ (o := 1) R (by simp) rfl) rfl
 ·refine ⟨h, ?_, by rw [if_neg he]; exact R, Chg.refl _ _⟩
  refine bnd (zao_ R rfl) ?_
  exact ifn (by simpa using he) rfl
theorem zhh_ (k : Nat) (D : za_) {h : AHeap} {b : Nat} {s : ByteArray} {e : Int} (R : Rdr h b s e) : zcc_ k D (some ⟨b, 0, none⟩) h = some ((s.size : Int), h) := by
 simp only [zcc_, Option.bind_some]
 exact bnd (zzb_ R rfl) rfl
theorem zJj_ (k : Nat) (D : za_) {h : AHeap} {b : Nat} {s : ByteArray} {e : Int} (R : Rdr h b s e) : zVb_ k D (some ⟨b, 0, none⟩) h = some (e, h) := by
 simp only [zVb_, Option.bind_some]
 exact bnd (zao_ R rfl) rfl
def rdE (s : ByteArray) (e n : Int) : Int := if e ≠ 0 then e else if n < 0 then 1 else if n > s.size then 10 else 0
def rdOut (s : ByteArray) (e n : Int) : ByteArray := if rdE s e n = 0 then ⟨⟨(bl s).take n.toNat⟩⟩ else ⟨#[]⟩
def zAn_ (s : ByteArray) (e n : Int) : ByteArray := if rdE s e n = 0 then ⟨⟨(bl s).drop n.toNat⟩⟩ else s
theorem zle_ (k : Nat) (D : za_) {h : AHeap} {b : Nat} {s : ByteArray} {e : Int} (R : Rdr h b s e) (n : Int) :
  ∃ h', zjb_ k D (some ⟨b, 0, none⟩) n h = some (rdOut s e n, h') ∧ Rdr h' b (zAn_ s e n) (rdE s e n) ∧ Chg (zIr_ b) h h' := by
 simp only [zjb_]
 have go : ∀ (h1 : AHeap) (e1 : Int), Rdr h1 b s e1 → Chg (zIr_ b) h h1 → e1 = rdE s e n →
   ∃ h', ((some (⟨b, 0, none⟩ : Addr)).bind fun p5 => (ldI .i64 (⟨p5.block, p5.off + 1, none⟩ : Addr) h1).bind fun x6 =>
    (if (x6 != 0) = true then some ((⟨#[]⟩ : ByteArray), h1)
    else ((some (⟨b, 0, none⟩ : Addr)).bind fun p7 => (ldS (⟨p7.block, p7.off + 0, none⟩ : Addr) h1).bind fun x8 => (Gx.subS x8 none (some n)).bind fun s9 =>
     (some (⟨b, 0, none⟩ : Addr)).bind fun p10 => (ldS (⟨p10.block, p10.off + 0, none⟩ : Addr) h1).bind fun x11 => (Gx.subS x11 (some n) none).bind fun s12 =>
     (some (⟨b, 0, none⟩ : Addr)).bind fun p13 => (st1 (⟨p13.block, p13.off + 0, none⟩ : Addr) (.string s12) h1).bind fun h14 => some (s9, h14)))) = some (rdOut s e n, h') ∧ Rdr h' b (zAn_ s e n) (rdE s e n) ∧ Chg (zIr_ b) h h' := by
  intro h1 e1 R1 c1 he
  by_cases h0 : rdE s e n = 0
  ·rw [h0] at he; subst he
   have hn : 0 ≤ n ∧ n ≤ s.size := by
    unfold rdE at h0
    split at h0
    ·rename_i q; exact absurd h0 q
    ·split at h0
     ·cases h0
     ·split at h0
      ·cases h0
      ·omega
   obtain ⟨m, rfl⟩ : ∃ m : Nat, n = m := ⟨n.toNat, by omega⟩
   refine ⟨h1.set b (.cells [.string ⟨⟨(bl s).drop m⟩⟩, .int .i64 0] 154 true 0), ?_, ?_, c1.trans (Chg.set (.inr rfl))⟩
   ·refine bnd rfl ?_
    refine bnd (zao_ R1 rfl) ?_
    refine ifn (by decide) ?_
    refine bnd rfl ?_
    refine bnd (zzb_ R1 rfl) ?_
    refine bnd (zFb_ (j := m) (i := 0) rfl rfl (by omega) (by omega)) ?_
    refine bnd rfl ?_
    refine bnd (zzb_ R1 rfl) ?_
    refine bnd (zFb_ (j := s.size) (i := m) rfl rfl (by omega) (by omega)) ?_
    refine bnd rfl ?_
    refine bnd (zpc_ (o := 0) R1 (by simp) rfl) ?_
    unfold rdOut
    have e0 : (bl s).take s.size = bl s := List.take_of_length_le (by rw [zh_]; omega)
    rw [if_pos h0, List.drop_zero, Int.toNat_natCast, e0]
    rfl
   ·unfold zAn_
    rw [if_pos h0, h0, Int.toNat_natCast]
    simp [Rdr]
  ·refine ⟨h1, ?_, ?_, c1⟩
   ·refine bnd rfl ?_
    refine bnd (zao_ R1 rfl) ?_
    refine ifp (by rw [he]; simpa using h0) ?_
    unfold rdOut; rw [if_neg h0]
   ·unfold zAn_; rw [if_neg h0, ← he]; exact R1
 by_cases hn : n < 0
 ·obtain ⟨h1, r1, R1, c1⟩ := zzf_ k D R 1
  obtain ⟨h', g1, g2, g3⟩ := go h1 _ R1 c1 (by unfold rdE; by_cases he : e = 0 <;> simp [he, hn])
  refine ⟨h', ?_, g2, g3⟩
  refine jn ?_
  refine ifp (decide_eq_true hn) ?_
  exact bnd r1 g1
 ·by_cases hl : n > s.size
  ·obtain ⟨h1, r1, R1, c1⟩ := zzf_ k D R 10
   obtain ⟨h', g1, g2, g3⟩ := go h1 _ R1 c1 (by unfold rdE; by_cases he : e = 0 <;> simp [he, hn, hl])
   refine ⟨h', ?_, g2, g3⟩
   refine jn ?_
   refine ifn (by simpa using hn) ?_
   refine bnd (zhh_ k D R) ?_
   refine ifp (decide_eq_true hl) ?_
   exact bnd r1 g1
  ·obtain ⟨h', g1, g2, g3⟩ := go h _ R (Chg.refl _ _) (by unfold rdE; by_cases he : e = 0 <;> simp [he, hn, hl])
   refine ⟨h', ?_, g2, g3⟩
   refine jn ?_
   refine ifn (by simpa using hn) ?_
   refine bnd (zhh_ k D R) ?_
   refine ifn (by simpa using hl) ?_
   exact g1
abbrev rxT := Int → Slc → Int → Int → AHeap → Option ((Int) × AHeap)
theorem zYs_ (K : Nat) (D : za_) (j) (bot : rxT) {h : AHeap} {b cap : Nat} {sp : Option Nat} {l : List UInt8} {e : TypeId} {r : Bool} {fz : Nat} (hb : h.get b = some (.cells (l.map encB) e r fz)) (hl : l.length ≤ 7) : ∀ (m i a : Nat), i + m = l.length → a < 256 ^ i →
  zi_ bot (m + 1) (zP_ K D j) (a : Int) (⟨some ⟨b, 0, sp⟩, l.length, cap⟩ : Slc) (l.length : Int) (i : Int) h = j ((numL a (l.drop i) : Nat) : Int) h
 | 0, i, a, hi, ha => by
  obtain rfl : i = l.length := by omega
  rw [zg_]; simp only [zP_]
  refine ifn (by simp) ?_
  rw [List.drop_length]; rfl
 | m + 1, i, a, hi, ha => by
  rw [zg_]; simp only [zP_]
  refine ifp (by simp; omega) ?_
  obtain ⟨x, hx⟩ := zv_ (l := l) (i := i) (by omega)
  refine bnd (zgu_ (by omega)) ?_
  refine bnd (zMC_ hb hx) ?_
  have hx' : x.toNat < 256 := UInt8.toNat_lt x
  have hbd := zMA_ ha (show i < l.length by omega) hl
  have e1 : Go.bits .or .i64 (IntKind.wrap .i64 ((a : Int) * 256)) (IntKind.wrap .i64 (x.toNat : Int)) = ((a * 256 + x.toNat : Nat) : Int) := by
   rw [w64 ((a : Int) * 256) (by omega), w64 (x.toNat : Int) (by omega)]
   have := bits_join .i64 63 (by decide) ztA_ 8 ((a : Int) * 256) (x.toNat : Int) (by omega) (by omega) (by omega) (by omega) (by omega) (by omega)
   rw [this]; omega
  rw [e1, w1 (by omega), zKd_ hx]
  exact zYs_ K D j bot hb hl m (i + 1) _ (by omega) (zwz_ ha)
theorem rfixed_spec {kf : Nat} (hkf : 9 ≤ kf) (D : za_) {h : AHeap} {b : Nat} {s : ByteArray} {e : Int} (R : Rdr h b s e) (n : Nat) (h1 : 1 ≤ n) (h7 : n ≤ 7) (hbl : b < h.next) :
  ∃ h', zub_ kf D (some ⟨b, 0, none⟩) (n : Int) h = some (((numL 0 (bl (rdOut s e n)) : Nat) : Int), h') ∧ Rdr h' b (zAn_ s e n) (rdE s e n) ∧ Chg (zIr_ b) h h' := by
 simp only [zub_]
 obtain ⟨g, r1, R1, c1⟩ := zle_ kf D R (n : Int)
 have hg : b < g.next := Nat.lt_of_lt_of_le hbl c1.nx
 have kn : zc_ g (g.new (.cells (zM_ (rdOut s e n)) 5 true 18446744073709551616)) := zc_.new _ _
 refine ⟨g.new (.cells (zM_ (rdOut s e n)) 5 true 18446744073709551616), ?_, R1.chg kn (fun f => f) hg, c1.trans (Chg.keeps kn)⟩
 refine jn ?_
 refine jn ?_
 refine ifn (by simp <;> omega) ?_
 refine ifn (by simp <;> omega) ?_
 refine jn ?_
 refine bnd r1 ?_
 unfold zsf_
 have hlen : (bl (rdOut s e n)).length ≤ 7 := by
  unfold rdOut
  split
  ·rw [zre_]; simp; omega
  ·exact Nat.zero_le _
 have hsz := zh_ (rdOut s e n)
 obtain ⟨bot', e2⟩ := zq_ (α := rxT) (fun _ _ _ _ _ => none) (zP_ kf D fun (n5 : Int) (h6 : AHeap) => some (n5, h6)) (show (rdOut s e n).size + 1 ≤ kf by omega)
 rw [e2]
 have := zYs_ kf D (fun (n5 : Int) (h6 : AHeap) => some (n5, h6)) bot' (h := g.new (.cells (zM_ (rdOut s e n)) 5 true 18446744073709551616)) (b := g.next) (cap := (rdOut s e n).size) (sp := some 2) (l := bl (rdOut s e n)) (e := 5) (r := true) (fz := 18446744073709551616) (by simp [zJk_]) hlen (rdOut s e n).size 0 0 (by omega) (by decide)
 rw [hsz] at this
 refine this.trans ?_
 rw [List.drop_zero]
end Gg.B
namespace Gg
open Go Gx
def zZc_ (l : List UInt8) : Option (Nat × List UInt8) :=
 if l.length ≤ 65536 ∧ 14 ≤ l.length ∧ l.take 5 = zxg_ ∧ l.drop (l.length - 4) = endB then
  if l.length - 8 - 5 < B.numL 0 ((l.drop (l.length - 8)).take 4) then none
  else some (l.length - 8 - B.numL 0 ((l.drop (l.length - 8)).take 4), (l.take (l.length - 8)).drop (l.length - 8 - B.numL 0 ((l.drop (l.length - 8)).take 4)))
 else none
abbrev Ln := ByteArray × Nat × Nat × Nat
def opL (s : Rd) : Ln × Rd :=
 let a := opB 32 s
 let b := opF a.2
 let c := opS 65536 b.2
 let d := opS 65536 c.2
 ((a.1, b.1, c.1, d.1), d.2)
def itL (pid : ByteArray) (at' : Nat) (x : Ln) : It := (x.1, pid, (x.2.1 : Int), (at' : Int), (x.2.2.1 : Int), (x.2.2.2 : Int))
def znc_ (pid : ByteArray) (fr : Nat) : Nat → Rd → Nat → List (ByteArray × Bool × Nat) → Option (List It × Rd × Nat)
 | 0, st, at', _ => some ([], st, at')
 | n + 1, st, at', es =>
  if (opL st).2.isSome = true ∧ ((opL st).1.2.1 = 1 ∨ (opL st).1.2.1 = 2) ∧ 1 ≤ (opL st).1.2.2.1 ∧ (opL st).1.2.2.1 ≤ fr - at' ∧ (lkM (opL st).1.1 es).getD false = false then
   (znc_ pid fr n (opL st).2 (at' + (opL st).1.2.2.1) (ptM (opL st).1.1 true es.length es)).map fun p => (itL pid at' (opL st).1 :: p.1, p.2)
  else none
def zoc_ (l : List UInt8) : Option (List It) :=
 match zZc_ l with
 | none => none
 | some (fr, dir) => match znc_ ⟨⟨zKi_ l⟩⟩ fr (opS 4096 (some dir)).1 (opS 4096 (some dir)).2 5 [] with
  | some (its, st, at') => if st = some [] ∧ at' = fr then some its else none
  | none => none
def bV (b : Bool) : Value := .bool b
section
variable {k rb : Nat} {h H H' : AHeap} {st : Rd}
theorem ztx_ (D : za_) (hk : 20 ≤ k) (hr : rb < H.next) (P : PRd H rb st) : Gx.Wp (zzk_ k D (some ⟨rb, 0, none⟩) H) fun z => z.1 = ((opL st).1.1, ⟨#[]⟩, ((opL st).1.2.1 : Int), 0, ((opL st).1.2.2.1 : Int), ((opL st).1.2.2.2 : Int)) ∧ PRd z.2 rb (opL st).2 ∧ Chg (· = rb) H z.2 := by
 simp only [zzk_]
 obtain ⟨a, sa, ea⟩ : ∃ a sa, opB 32 st = (a, sa) := ⟨_, _, rfl⟩
 obtain ⟨c, sc, ec⟩ : ∃ c sc, opF sa = (c, sc) := ⟨_, _, rfl⟩
 obtain ⟨d, sd, ed⟩ : ∃ d sd, opS 65536 sc = (d, sd) := ⟨_, _, rfl⟩
 obtain ⟨e, se, ee⟩ : ∃ e se, opS 65536 sd = (e, se) := ⟨_, _, rfl⟩
 have eI : opL st = ((a, c, d, e), se) := by
  unfold opL
  simp only [ea, ec, ed, ee]
 rw [eI]
 refine Wp.newE fun h1 e1 k1 n1 g1 => .call (zle_ D (P.keeps hr k1) 32) fun r2 ⟨q2, P2, c2⟩ => ?_
 rw [ea] at q2 P2
 rw [q2]
 have n2 := c2.nx
 have c02 : Chg (· = rb) H r2.2 := Chg.trans (Chg.keeps k1) c2
 have g2 := c2.got (by omega) (by omega) g1
 refine Wp.newE fun h3 e3 k3 n3 g3 => Wp.stL g3 rfl rfl rfl (by decide) fun h4 c4 n4 g4 => ?_
 have k4 : zc_ r2.2 h4 := k3.keepsS c4 fun y hy => by have hy : y = r2.2.next := hy; omega
 have P4 := P2.keeps (by omega) k4
 have c04 : Chg (· = rb) H h4 := Chg.trans c02 (Chg.keeps k4)
 have g24 := k4.got (by omega) g2
 refine .call (rfixed_spec D hk (by omega) P4) fun r7 ⟨q7, P7, c7⟩ => ?_
 rw [ec] at q7 P7
 rw [q7]
 have n7 := c7.nx
 have gx7 := c7.got (by omega) (by omega) g4
 have g27 := c7.got (by omega) (by omega) g24
 have c07 : Chg (· = rb) H r7.2 := Chg.trans c04 c7
 refine Wp.st gx7 (by simp) rfl fun h8 c8 n8 g8 => ?_
 have P8 := P7.chg (by omega) c8 (by omega)
 have g28 := c8.got (by omega) (by omega) g27
 have c08 := chgB c07 c8 (by omega)
 refine .call (zIc_ D hk P8 65536) fun r9 ⟨q9, P9, c9⟩ => ?_
 rw [ed] at q9 P9
 rw [q9]
 have n9 := c9.nx
 have gx9 := c9.got (by omega) (by omega) g8
 have g29 := c9.got (by omega) (by omega) g28
 have c09 : Chg (· = rb) H r9.2 := Chg.trans c08 c9
 refine Wp.st gx9 (by simp) rfl fun h10 c10 n10 g10 => ?_
 have P10 := P9.chg (by omega) c10 (by omega)
 have g210 := c10.got (by omega) (by omega) g29
 have c010 := chgB c09 c10 (by omega)
 refine .call (zIc_ D hk P10 65536) fun r11 ⟨q11, P11, c11⟩ => ?_
 rw [ee] at q11 P11
 rw [q11]
 have n11 := c11.nx
 have gx11 := c11.got (by omega) (by omega) g10
 have g211 := c11.got (by omega) (by omega) g210
 have c011 : Chg (· = rb) H r11.2 := Chg.trans c010 c11
 refine Wp.st gx11 (by simp) rfl fun h12 c12 n12 g12 => ?_
 have P12 := P11.chg (by omega) c12 (by omega)
 have g212 := c12.got (by omega) (by omega) g211
 have c012 := chgB c011 c12 (by omega)
 refine .bnd (zA_ g12 rfl) (.bnd (zvb_ (a, ⟨#[]⟩, (c : Int), 0, (d : Int), (e : Int))) ?_)
 refine Wp.stL g212 rfl rfl rfl (by decide) fun h13 c13 n13 g13 => ?_
 have P13 := P12.chg (by omega) c13 (by omega)
 have c013 := chgB c012 c13 (Nat.le_refl _)
 exact .bnd (zA_ g13 rfl) (.bnd (zvb_ (a, ⟨#[]⟩, (c : Int), 0, (d : Int), (e : Int))) (.of ⟨rfl, P13, c013⟩))
theorem zxw_ (D : za_) (s p : ByteArray) : zwe_ k D s p h = some (decide ((bl s).take p.size = bl p), h) := by
 simp only [zwe_, zhb_]
 have bs : (bl s).length = s.size := zh_ s
 have bp : (bl p).length = p.size := zh_ p
 by_cases c : p.size ≤ s.size
 ·refine bnd (ifp (by simp; omega) (bnd (zFb_ (i := 0) (j := p.size) rfl rfl (by omega) c) rfl)) ?_
  rw [List.drop_zero]
  congr 2
  rw [zOe_]
  exact decide_eq_decide.2 ⟨fun q => congrArg bl q, fun q => zSf_ q⟩
 ·refine bnd (ifn (by simp; omega) rfl) ?_
  congr 2
  symm
  refine decide_eq_false fun q => ?_
  have := congrArg List.length q
  rw [List.length_take] at this
  omega
theorem zpw_ (D : za_) (s p : ByteArray) (hs : s.size ≤ 1000000) (hp : p.size ≤ s.size) : zxe_ k D s p h = some (decide ((bl s).drop (s.size - p.size) = bl p), h) := by
 simp only [zxe_, zBc_]
 have bs : (bl s).length = s.size := zh_ s
 refine bnd (v := (decide ((bl s).drop (s.size - p.size) = bl p), h)) (ifp (by simp; omega) ?_) rfl
 rw [show IntKind.wrap .i64 ((s.size : Int) - (p.size : Int)) = ((s.size - p.size : Nat) : Int) by rw [Gx.w64 _ (by omega)]; omega]
 refine bnd (zFb_ (i := s.size - p.size) (j := s.size) rfl rfl (by omega) (Nat.le_refl _)) ?_
 rw [List.take_of_length_le (by omega)]
 congr 2
 rw [zOe_]
 exact decide_eq_decide.2 ⟨fun q => congrArg bl q, fun q => zSf_ q⟩
theorem zyx_ (D : za_) (hk : 20 ≤ k) (s : ByteArray) : Gx.Wp (zdj_ k D s h) fun z => zc_ h z.2 ∧ match zZc_ (bl s) with
  | some (fr, dir) => z.1 = ((fr : Int), ⟨⟨dir⟩⟩, true)
  | none => z.1.2.2 = false := by
 simp only [zdj_]
 refine Wp.jn fun j4 h4 => ?_
 have bs : (bl s).length = s.size := zh_ s
 have bad : ∀ y, y = true → zZc_ (bl s) = none → Gx.Wp (j4 s y h) fun z => zc_ h z.2 ∧ match zZc_ (bl s) with
   | some (fr, dir) => z.1 = ((fr : Int), ⟨⟨dir⟩⟩, true)
   | none => z.1.2.2 = false := fun y hy hn => by
  rw [h4, hn]
  exact .ifp hy (.of ⟨Chg.refl _ _, rfl⟩)
 by_cases c1 : 65536 < s.size
 ·exact .ifp (by simp; omega) (bad true rfl (by unfold zZc_; rw [if_neg (fun q => by omega)]))
 refine .ifn (by simp; omega) ?_
 by_cases c2 : s.size < 14
 ·exact .ifp (by simp; omega) (bad true rfl (by unfold zZc_; rw [if_neg (fun q => by omega)]))
 refine .ifn (by simp; omega) (.bnd (zxw_ D s _) ?_)
 have p5 : (⟨#[71, 82, 84, 80, 1]⟩ : ByteArray).size = 5 := rfl
 have p4 : (⟨#[80, 69, 78, 68]⟩ : ByteArray).size = 4 := rfl
 rw [p5, show bl (⟨#[71, 82, 84, 80, 1]⟩ : ByteArray) = zxg_ from rfl]
 by_cases c3 : (bl s).take 5 = zxg_
 rotate_left
 ·exact .ifp (by rw [decide_eq_false c3]; rfl) (bad true rfl (by unfold zZc_; rw [if_neg (fun q => c3 q.2.2.1)]))
 refine .ifn (by rw [decide_eq_true c3]; simp) (.bnd (zpw_ D s _ (by omega) (by rw [p4]; omega)) ?_)
 rw [p4, show bl (⟨#[80, 69, 78, 68]⟩ : ByteArray) = endB from rfl]
 by_cases c4 : (bl s).drop (s.size - 4) = endB
 rotate_left
 ·exact bad _ (by rw [decide_eq_false c4]; rfl) (by unfold zZc_; rw [if_neg (fun q => c4 (by rw [← bs]; exact q.2.2.2))])
 rw [decide_eq_true c4, h4]
 refine .ifn (by simp) ?_
 rw [show IntKind.wrap .i64 ((s.size : Int) - 8) = ((s.size - 8 : Nat) : Int) by rw [Gx.w64 _ (by omega)]; omega]
 refine .bnd (zFb_ (i := 0) (j := s.size - 8) rfl rfl (by omega) (by omega)) ?_
 rw [List.drop_zero]
 have s5 : (⟨⟨(bl s).take (s.size - 8)⟩⟩ : ByteArray).size = s.size - 8 := by rw [zXb_, List.length_take]; omega
 rw [s5]
 refine .bnd (zFb_ (i := s.size - 8) (j := s.size) rfl rfl (by omega) (by omega)) ?_
 rw [List.take_of_length_le (by omega)]
 obtain ⟨l8, e8⟩ : ∃ l8, l8 = (bl s).drop (s.size - 8) := ⟨_, rfl⟩
 have ll8 : l8.length = 8 := by rw [e8, List.length_drop]; omega
 rw [← e8]
 refine .bnd (Gg.B.read_spec k D ⟨⟨l8⟩⟩ h) ?_
 obtain ⟨h7, e7⟩ : ∃ h7, h7 = h.new (.cells [.string (⟨⟨l8⟩⟩ : ByteArray), .int .i64 0] 154 true 0) := ⟨_, rfl⟩
 rw [← e7]
 have R7 : Gg.B.Rdr h7 h.next ⟨⟨l8⟩⟩ 0 := by rw [Gg.B.Rdr, e7]; simp
 have k7 : zc_ h h7 := by rw [e7]; exact zc_.new _ _
 obtain ⟨h8, f1, f2, f3⟩ := Gg.B.rfixed_spec (kf := k) (by omega) D R7 4 (by omega) (by omega) (by rw [e7]; show h.next < h.next + 1; omega)
 have k8 : zc_ h h8 := k7.keepsS f3 fun y hy => by have hy : y = h.next := hy; omega
 have eN : Gg.B.numL 0 (bl (Gg.B.rdOut ⟨⟨l8⟩⟩ 0 (4 : Nat))) = Gg.B.numL 0 (((bl s).drop ((bl s).length - 8)).take 4) := by
  have e0 : Gg.B.rdE ⟨⟨l8⟩⟩ 0 ((4 : Nat) : Int) = 0 := by
   unfold Gg.B.rdE
   rw [zXb_, ll8]; decide
  unfold Gg.B.rdOut
  rw [if_pos e0, zre_, zre_, bs, ← e8]
  rfl
 have eP : zZc_ (bl s) = if (bl s).length - 8 - 5 < Gg.B.numL 0 (((bl s).drop ((bl s).length - 8)).take 4) then none
  else some ((bl s).length - 8 - Gg.B.numL 0 (((bl s).drop ((bl s).length - 8)).take 4), ((bl s).take ((bl s).length - 8)).drop ((bl s).length - 8 - Gg.B.numL 0 (((bl s).drop ((bl s).length - 8)).take 4))) := by
  unfold zZc_
  rw [if_pos ⟨by omega, by omega, c3, by rw [bs]; exact c4⟩]
 refine .bnd f1 ?_
 rw [eN]
 obtain ⟨m, em⟩ : ∃ m, m = Gg.B.numL 0 (((bl s).drop ((bl s).length - 8)).take 4) := ⟨_, rfl⟩
 rw [← em] at eP ⊢
 rw [eP]
 have hm32 : m < 4294967296 := by
  rw [em]
  have := Gg.B.numL_lt (((bl s).drop ((bl s).length - 8)).take 4)
  have l4 : (((bl s).drop ((bl s).length - 8)).take 4).length = 4 := by rw [List.length_take, List.length_drop]; omega
  rw [l4] at this
  exact this
 simp only []
 rw [show IntKind.wrap .i64 (((s.size - 8 : Nat) : Int) - 5) = ((s.size - 8 - 5 : Nat) : Int) by rw [Gx.w64 _ (by omega)]; omega]
 by_cases c5 : (bl s).length - 8 - 5 < m
 ·rw [if_pos c5]
  exact .ifp (by simp; omega) (.of ⟨k8, rfl⟩)
 ·rw [if_neg c5]
  refine .ifn (by simp; omega) ?_
  rw [show IntKind.wrap .i64 (((s.size - 8 : Nat) : Int) - (m : Int)) = ((s.size - 8 - m : Nat) : Int) by rw [Gx.w64 _ (by omega)]; omega]
  refine .bnd (zFb_ (s := ⟨⟨(bl s).take (s.size - 8)⟩⟩) (i := s.size - 8 - m) (j := s.size - 8) (by rw [Option.getD_none, s5]) rfl (by omega) (by omega)) (.of ⟨k8, ?_⟩)
  rw [show bl (⟨⟨(bl s).take (s.size - 8)⟩⟩ : ByteArray) = (bl s).take (s.size - 8) from rfl, List.take_take, Nat.min_self, bs]
end
structure PL (h0 H : AHeap) (rb mb : Nat) (st : Rd) (es : List (ByteArray × Bool × Nat)) (o : Slc) (its : List It) : Prop where
 kp : zc_ h0 H
 R : PRd H rb st
 M : zsc_ sK bV H mb es
 A : AccW 6 itC 57 (mb + 1) H o its
 lr : rb < mb
 lm : mb < H.next
 h0r : h0.next ≤ rb
section
variable {k rb mb : Nat} {h0 H H' : AHeap} {st : Rd} {es : List (ByteArray × Bool × Nat)} {o : Slc} {its : List It}
theorem PL.keeps (P : PL h0 H rb mb st es o its) (c : zc_ H H') : PL h0 H' rb mb st es o its :=
 have := P.lr; have := P.lm; have := c.nx
 ⟨P.kp.trans c, P.R.keeps (by omega) c, P.M.chg c P.lm (fun f => f), P.A.keeps c, P.lr, by omega, P.h0r⟩
theorem PL.red (P : PL h0 H rb mb st es o its) (c : Chg (· = rb) H H') {st' : Rd} (R : PRd H' rb st') : PL h0 H' rb mb st' es o its :=
 have := P.lr; have := P.lm; have := c.nx; have := P.h0r
 ⟨P.kp.keepsS c fun y hy => (by have hy : y = rb := hy; omega), R, P.M.chg c P.lm (by omega), P.A.chg c fun a ha e => (by have := (P.A.lt a ha).2; have e : a.block = rb := e; omega), P.lr, by omega, P.h0r⟩
theorem zfB_ (n : Nat) : (((n : Int) == 1) = true ↔ n = 1) ∧ (((n : Int) == 2) = true ↔ n = 2) := by
 constructor
 ·constructor
  ·intro h; have := eq_of_beq h; omega
  ·intro h; subst h; rfl
 ·constructor
  ·intro h; have := eq_of_beq h; omega
  ·intro h; subst h; rfl
theorem zhp_ (most : Nat) (st : Rd) : (opS most st).1 ≤ most := by
 unfold opS
 cases h : st.bind (pS most) with
 | none => simp
 | some x =>
  obtain ⟨n, l⟩ := x
  simp only []
  cases st with
  | none => cases h
  | some l0 => exact (zpv_ h).1
theorem zBj_ {pid : ByteArray} {fr d at' : Nat} (h : ¬ ((opL st).2.isSome = true ∧ ((opL st).1.2.1 = 1 ∨ (opL st).1.2.1 = 2) ∧ 1 ≤ (opL st).1.2.2.1 ∧ (opL st).1.2.2.1 ≤ fr - at' ∧ (lkM (opL st).1.1 es).getD false = false)) : znc_ pid fr (d + 1) st at' es = none := by
 unfold znc_; rw [if_neg h]
theorem zIy_ (D : za_) (hk : 20 ≤ k) {pid : ByteArray} {fr : Nat} (hfr : fr ≤ 70000) {j12 : Int → (Option Addr) → Int → Slc → AHeap → Option ((Slc × Int) × AHeap)} {Q : (Slc × Int) × AHeap → Prop} {many : Nat} (hmany : many ≤ 4096) (bot) :
  ∀ (d i at' : Nat) (st : Rd) (es : List (ByteArray × Bool × Nat)) (o : Slc) (its : List It) (H : AHeap), i + d = many → at' ≤ fr → its.length = i → PL h0 H rb mb st es o its →
  (znc_ pid fr d st at' es = none → ∀ H', zc_ h0 H' → Q ((⟨none, 0, 0⟩, 140), H')) →
  (∀ its' st' at'' H' o' es', znc_ pid fr d st at' es = some (its', st', at'') → PL h0 H' rb mb st' es' o' (its ++ its') → Gx.Wp (j12 (fr : Int) (some ⟨rb, 0, none⟩) (at'' : Int) o' H') Q) →
  Gx.Wp (zi_ bot (d + 1) (zye_ k D j12) (fr : Int) (some ⟨rb, 0, none⟩) (at' : Int) pid (some mb) o (many : Int) (i : Int) H) Q := by
 intro d
 induction d with
 | zero =>
  intro i at' st es o its H hd hat hl P _ hgood
  rw [zg_]; simp only [zye_]
  refine .ifn (by simp; omega) (hgood [] st at' H o es rfl ?_)
  rw [List.append_nil]; exact P
 | succ d ih =>
  intro i at' st es o its H hd hat hl P hbad hgood
  rw [zg_]; simp only [zye_]
  have plr := P.lr; have plm := P.lm; have ph := P.h0r
  refine .ifp (by simp; omega) (.call (ztx_ D hk (by omega) P.R) fun r28 ⟨q28, R28, c28⟩ => ?_)
  have P28 := P.red c28 R28
  have n28 := c28.nx
  obtain ⟨ln, eln⟩ : ∃ ln, ln = (opL st).1 := ⟨_, rfl⟩
  obtain ⟨st', est⟩ : ∃ st', st' = (opL st).2 := ⟨_, rfl⟩
  rw [← eln] at q28
  rw [← est] at R28 P28
  rw [q28]
  dsimp only
  have b65 : ln.2.2.1 ≤ 65536 := by rw [eln]; exact zhp_ _ _
  obtain ⟨xb, exb⟩ : ∃ xb, xb = r28.2.next := ⟨_, rfl⟩
  refine Wp.newE fun h29 e29 k29 n29 g29 => Wp.stL g29 rfl rfl rfl (by decide) fun h30 c30 n30 g30 => Wp.jn fun j42 h42 => ?_
  have k30 : zc_ r28.2 h30 := k29.keepsS c30 fun y hy => by have hy : y = r28.2.next := hy; omega
  have P30 := P28.keeps k30
  rw [← exb] at g30 ⊢
  have J42 : ∀ kd : Bool, (kd = true ↔ (ln.2.1 = 1 ∨ ln.2.1 = 2)) → Gx.Wp (j42 (fr : Int) (some ⟨rb, 0, none⟩) (at' : Int) pid (some mb) o (some ⟨xb, 0, none⟩) kd (many : Int) (i : Int) h30) Q := fun kd hkd => by
   rw [h42]
   refine Wp.jn fun j54 h54 => ?_
   have bad54 : ∀ y, y = true → znc_ pid fr (d + 1) st at' es = none → Gx.Wp (j54 (fr : Int) (some ⟨rb, 0, none⟩) (at' : Int) pid (some mb) o (some ⟨xb, 0, none⟩) (many : Int) (i : Int) y h30) Q := fun y hy hn => by
    rw [h54]
    exact .ifp hy (.of (hbad hn h30 P30.kp))
   obtain ⟨S, e, gR, hS, he, hl'⟩ := P30.R
   refine .bnd (zJj_ D gR) ?_
   by_cases c1 : e = 0
   rotate_left
   ·exact .ifp (by simpa using c1) (bad54 _ rfl (zBj_ fun w => c1 (he.2 (by rw [est]; exact w.1))))
   have hsome : st'.isSome = true := he.1 c1
   refine .ifn (by simp [c1]) ?_
   by_cases c2 : ln.2.1 = 1 ∨ ln.2.1 = 2
   rotate_left
   ·exact .ifp (by rw [show kd = false by cases kd with | false => rfl | true => exact absurd (hkd.1 rfl) c2]; rfl) (bad54 _ rfl (zBj_ fun w => c2 (by rw [eln]; exact w.2.1)))
   refine .ifn (by rw [hkd.2 c2]; decide) (.bnd rfl (.bnd (zp_ (o := 0 + 1 + 3) g30 rfl) ?_))
   by_cases c3 : 1 ≤ ln.2.2.1
   rotate_left
   ·exact .ifp (decide_eq_true (by omega)) (bad54 _ rfl (zBj_ fun w => c3 (by rw [eln]; exact w.2.2.1)))
   refine .ifn (fun w => by have := of_decide_eq_true w; omega) (.bnd rfl (.bnd (zp_ (o := 0 + 1 + 3) g30 rfl) ?_))
   rw [show IntKind.wrap .i64 ((fr : Int) - (at' : Int)) = ((fr - at' : Nat) : Int) by rw [Gx.w64 _ (by omega)]; omega]
   by_cases c4 : ln.2.2.1 ≤ fr - at'
   rotate_left
   ·exact .ifp (decide_eq_true (by omega)) (bad54 _ rfl (zBj_ fun w => c4 (by rw [eln]; exact w.2.2.2.1)))
   refine .ifn (fun w => by have := of_decide_eq_true w; omega) (.bnd rfl (.bnd (zzb_ (o := 0 + 0) g30 rfl) ?_))
   have lk : zuc_ decB (.bool false) h30 (some mb) (.string ln.1) = some ((lkM ln.1 es).getD false, (lkM ln.1 es).isSome) := by
    have := P30.M.look (n := ln.1) (fun e _ => zeh_ _ e.1) (dec := decB) (dv := fun v : Bool => v) (fun v => rfl) (z := .bool false) (z0 := false) rfl
    refine this.trans ?_
    cases lkM ln.1 es <;> rfl
   refine .bnd lk ?_
   cases c5 : (lkM ln.1 es).getD false with
   | true => exact bad54 _ rfl (zBj_ fun w => by rw [← eln, c5] at w; exact absurd w.2.2.2.2 (by decide))
   | false =>
    have eL : znc_ pid fr (d + 1) st at' es = (znc_ pid fr d st' (at' + ln.2.2.1) (ptM ln.1 true es.length es)).map fun p => (itL pid at' ln :: p.1, p.2) := by
     conv => lhs; unfold znc_
     rw [← eln, ← est, if_pos ⟨hsome, c2, c3, c4, c5⟩]
    rw [eL] at hbad hgood
    rw [h54]
    refine .ifn (by simp) (.bnd rfl (.bnd (zzb_ (o := 0 + 0) g30 rfl) (.bnd rfl ?_)))
    obtain ⟨h57, u1, u2, u3, u4⟩ := P30.M.upd (n := ln.1) (fun e _ => zeh_ _ e.1) true
    have n30' := k30.nx
    have g57 := u3.got (by omega) (by omega) g30
    refine .bnd u1 (.bnd rfl (Wp.st g57 (by simp) rfl fun h60 c60 n60 g60 => .bnd rfl (Wp.st g60 (by simp) rfl fun h62 c62 n62 g62 => .bnd rfl (.bnd (zp_ (o := 0 + 1 + 3) g62 rfl) (.bnd rfl ?_)))))
    obtain ⟨x, ex⟩ : ∃ x : It, x = itL pid at' ln := ⟨_, rfl⟩
    have exc : itC x = [.string ln.1, .string pid, .int .i64 (ln.2.1 : Int), .int .i64 (at' : Int), .int .i64 (ln.2.2.1 : Int), .int .i64 (ln.2.2.2 : Int)] := by rw [ex]; rfl
    have cA : Chg (· = mb) r28.2 h62 := Chg.beh (T := (· = xb)) (Chg.beh (T := (· = xb)) ((Chg.keeps k30).trans u3) c60 fun y hy e => by have e : y = xb := e; omega) c62 fun y hy e => by have e : y = xb := e; omega
    have R62 := R28.chg (by omega) cA (show ¬ rb = mb by omega)
    have A62 := P28.A.chg cA fun a ha e => by have := (P28.A.lt a ha).2; have e : a.block = mb := e; omega
    have M62 := (u2.chg c60 (by omega) (show ¬ mb = xb by omega)).chg c62 (by omega) (show ¬ mb = xb by omega)
    have k62 : zc_ h0 h62 := P28.kp.keepsS cA fun y hy => by have hy : y = mb := hy; omega
    obtain ⟨s', h', a, A', c', d'⟩ := A62.push zG_ zep_ x (bytes := 64) (by decide) (by omega) (by omega)
    refine .bnd (zA_ g62 rfl) (.bnd (zvb_ (ln.1, pid, (ln.2.1 : Int), (at' : Int), (ln.2.2.1 : Int), (ln.2.2.2 : Int))) (Wp.newE fun h68 e68 k68 n68 g68 => ?_))
    have e68' : h68 = h62.new (.cells (itC x) 57 true 0) := by rw [e68, exc]
    rw [← e68'] at a
    have er : Gx.rdS 6 ⟨some ⟨h62.next, 0, some 0⟩, 1, 1⟩ h68 = some (itC x) := by rw [e68']; exact zTg_ zG_ x 57
    refine .bnd er (.bnd a ?_)
    rw [show IntKind.wrap .i64 ((at' : Int) + (ln.2.2.1 : Int)) = ((at' + ln.2.2.1 : Nat) : Int) by rw [Gx.w64 _ (by omega)]; omega, Gx.w1 (by omega)]
    have no : ∀ y, ofS o y → mb + 1 ≤ y := fun y ⟨b, hb, e⟩ => by have := (A62.lt b hb).2; omega
    have nx' := c'.nx
    have P' : PL h0 h' rb mb st' (ptM ln.1 true es.length es) s' (its ++ [x]) :=
     ⟨k62.keepsS c' fun y hy => by have := no y hy; omega, R62.chg (by omega) c' (fun w => by have := no _ w; omega), M62.chg c' (by omega) (fun w => by have := no _ w; omega), A', plr, by omega, ph⟩
    refine ih (i + 1) (at' + ln.2.2.1) st' _ s' (its ++ [x]) h' (by omega) (by omega) (by simp; omega) P' (fun hn => hbad (by rw [hn]; rfl)) fun its' st'' at'' H' o' es' hs PP => ?_
    refine hgood (x :: its') st'' at'' H' o' es' (by rw [hs, ex]; rfl) ?_
    rw [List.append_assoc] at PP
    exact PP
  have kd := zfB_ ln.2.1
  refine .bnd (zp_ g30 rfl) ?_
  by_cases ck : ln.2.1 = 1
  ·exact .ifp (kd.1.2 ck) (J42 true (by simp [ck]))
  ·refine .ifn (fun w => ck (kd.1.1 w)) (.bnd (zp_ g30 rfl) (J42 _ ?_))
   rw [kd.2]
   omega
theorem zWn_ (D : za_) {h : AHeap} (kg : KG 0 h) (hk : 1200000 ≤ k) (s : ByteArray) : Gx.Wp (zAh_ k D s h) fun z => zc_ h z.2 ∧ match zoc_ (bl s) with
  | some its => ∃ sl, z.1 = (sl, 0) ∧ AccW 6 itC 57 h.next z.2 sl its
  | none => z.1 = (⟨none, 0, 0⟩, 140) := by
 simp only [zAh_]
 have bs : (bl s).length = s.size := zh_ s
 refine .call (zyx_ D (by omega) s) fun r1 ⟨k1, q1⟩ => ?_
 cases hp : zZc_ (bl s) with
 | none =>
  rw [hp] at q1
  have e : zoc_ (bl s) = none := by unfold zoc_; rw [hp]
  rw [e]
  exact .ifp (by rw [q1]; rfl) (.of ⟨k1, rfl⟩)
 | some x =>
  obtain ⟨fr, dir⟩ := x
  rw [hp] at q1
  simp only [] at q1
  rw [q1]
  have hpf : fr ≤ 65536 ∧ 5 ≤ fr ∧ dir.length ≤ 65536 ∧ s.size ≤ 65536 := by
   unfold zZc_ at hp
   split at hp
   ·rename_i c
    split at hp
    ·cases hp
    ·rename_i c2
     cases hp
     refine ⟨by omega, by omega, ?_, by omega⟩
     rw [List.length_drop, List.length_take]; omega
   ·cases hp
  have eK : zoc_ (bl s) = match znc_ ⟨⟨zKi_ (bl s)⟩⟩ fr (opS 4096 (some dir)).1 (opS 4096 (some dir)).2 5 [] with
   | some (its, st, at') => if st = some [] ∧ at' = fr then some its else none
   | none => none := by unfold zoc_; rw [hp] <;> rfl
  refine .ifn (by simp) (.bnd (Gg.B.read_spec k D ⟨⟨dir⟩⟩ r1.2) ?_)
  obtain ⟨h2, e2⟩ : ∃ h2, h2 = r1.2.new (.cells [.string (⟨⟨dir⟩⟩ : ByteArray), .int .i64 0] 154 true 0) := ⟨_, rfl⟩
  have k2 : zc_ r1.2 h2 := e2 ▸ zc_.new _ _
  have g2 : h2.get r1.2.next = some (.cells [.string (⟨⟨dir⟩⟩ : ByteArray), .int .i64 0] 154 true 0) := by rw [e2]; simp
  have n2 : h2.next = r1.2.next + 1 := by rw [e2]; rfl
  rw [← e2]
  have P2 : PRd h2 r1.2.next (some dir) := PRd.ok (l := dir) g2 (by omega)
  refine .call (zIc_ D (by omega) P2 4096) fun r3 ⟨q3, P3, c3⟩ => Wp.newE fun h4 e4 k4 n4 g4 => ?_
  have n3 := c3.nx
  have nk1 := k1.nx
  have k3 : zc_ r1.2 r3.2 := k2.keepsS c3 fun y hy => by have hy : y = r1.2.next := hy; omega
  have R4 : Row encS h4 ⟨some ⟨r3.2.next, 0, some 0⟩, 1, 1⟩ [s] := Row.of_block (enc := encS) (xs := [s]) g4 (by omega) fun i z hz => by
   match i with
   | 0 => simp at hz; subst hz; rfl
   | i + 1 => simp at hz
  have ec : Gg.B.catL [s] = bl s := by simp [Gg.B.catL]
  refine .call (Gg.B.sum_spec (by omega) D (((kg.chg k1 fun f => f).chg k3 fun f => f).chg k4 fun f => f) R4 (by rw [ec]; omega) (by rw [ec]; omega) (by simp; omega) (by simp)) fun r5 ⟨q5, k5⟩ => ?_
  rw [ec] at q5
  rw [q5, q3]
  have n5 := k5.nx
  refine Wp.newE fun h6 e6 k6 n6 g6 => Wp.jn fun j12 h12 => ?_
  have k36 : zc_ r3.2 h6 := (k4.trans k5).trans k6
  have P6 : PL h h6 r1.2.next r5.2.next (opS 4096 (some dir)).2 [] ⟨none, 0, 0⟩ [] :=
   ⟨(k1.trans k3).trans k36, P3.keeps (by omega) k36, g6, AccW.nil _ _ _ _ _, by omega, by omega, nk1⟩
  unfold zUm_
  have hm := zhp_ 4096 (some dir)
  obtain ⟨bot, eb⟩ := zq_ (fun _ _ _ _ _ _ _ _ _ => none) (zye_ k D j12) (show (opS 4096 (some dir)).1 + 1 ≤ k by omega)
  rw [eb, show (0 : Int) = ((0 : Nat) : Int) from rfl, show (5 : Int) = ((5 : Nat) : Int) from rfl]
  refine zIy_ D (by omega) (by omega) hm bot _ 0 5 _ [] ⟨none, 0, 0⟩ [] h6 (by omega) hpf.2.1 rfl P6 (fun hn H' kk => ?_) fun its' st' at'' H' o' es' hs PP => ?_
  ·rw [eK, hn]
   exact ⟨kk, rfl⟩
  ·rw [List.nil_append] at PP
   rw [hs] at eK
   simp only [] at eK
   rw [h12]
   refine Wp.jn fun j16 h16 => .call (zKs_ D PP.R) fun r17 ⟨q17, c17⟩ => ?_
   have bad : ∀ y, y = true → zoc_ (bl s) = none → Gx.Wp (j16 o' y r17.2) fun z => zc_ h z.2 ∧ match zoc_ (bl s) with
     | some its => ∃ sl, z.1 = (sl, 0) ∧ AccW 6 itC 57 h.next z.2 sl its
     | none => z.1 = (⟨none, 0, 0⟩, 140) := fun y hy hn => by
    rw [h16, hn]
    exact .ifp hy (.of ⟨PP.kp.keepsS c17 fun y hy => by have hy : y = r1.2.next := hy; omega, rfl⟩)
   by_cases c1 : st' = some []
   rotate_left
   ·exact .ifp (by simp; exact fun w => c1 (q17.1 w)) (bad true rfl (by rw [eK, if_neg (fun w => c1 w.1)]))
   refine .ifn (by rw [q17.2 c1]; decide) ?_
   by_cases c2 : at'' = fr
   rotate_left
   ·exact bad _ (by simp; omega) (by rw [eK, if_neg (fun w => c2 w.2)])
   rw [eK, if_pos ⟨c1, c2⟩, h16]
   refine .ifn (by rw [c2]; simp) (.of ⟨PP.kp.keepsS c17 fun y hy => by have hy : y = r1.2.next := hy; omega, o', rfl, ?_⟩)
   have A := PP.A.chg c17 fun a ha e => by have := (PP.A.lt a ha).2; have := PP.lr; have e : a.block = r1.2.next := e; omega
   exact ⟨A.st, fun a ha => ⟨(A.lt a ha).1, by have := (A.lt a ha).2; have := PP.lr; omega⟩⟩
end
abbrev Tx := Nat × ByteArray
def okT (x : Tx) : Prop := (x.1 = 1 ∨ x.1 = 2) ∧ x.2.size ≤ 60000
def zH_ (ts : List Tx) : List UInt8 := ts.flatMap fun x => encP x.1 (bl x.2)
def zbd_ (ts : List Tx) : List UInt8 := ts.flatMap fun x => zpb_ x.1 x.2
def idT (x : Tx) : ByteArray := idB x.1 (bl x.2)
def lenT (x : Tx) : Nat := (encP x.1 (bl x.2)).length
def znd_ (pid : ByteArray) : List Tx → Nat → List It
 | [], _ => []
 | x :: r, off => (idT x, pid, (x.1 : Int), (off : Int), (lenT x : Int), (x.2.size : Int)) :: znd_ pid r (off + lenT x)
theorem zPi_ (pid : ByteArray) : ∀ (ts : List Tx) (off : Nat), (znd_ pid ts off).length = ts.length
 | [], _ => rfl
 | x :: r, off => by simp [znd_, zPi_ pid r]
theorem zOs_ (pid : ByteArray) (x : Tx) : ∀ (ts : List Tx) (off : Nat), znd_ pid (ts ++ [x]) off = znd_ pid ts off ++ [(idT x, pid, (x.1 : Int), ((off + (zH_ ts).length : Nat) : Int), (lenT x : Int), (x.2.size : Int))]
 | [], off => by simp [znd_, zH_]
 | y :: r, off => by
  rw [List.cons_append, znd_, zOs_ pid x r, znd_, List.cons_append]
  have : (zH_ (y :: r)).length = lenT y + (zH_ r).length := by unfold zH_ lenT; rw [List.flatMap_cons, List.length_append]
  rw [this, show off + lenT y + (zH_ r).length = off + (lenT y + (zH_ r).length) by omega]
theorem zRn_ (pid p2 : ByteArray) : ∀ (ts : List Tx) (off : Nat), (znd_ pid ts off).map (setP p2) = znd_ p2 ts off
 | [], _ => rfl
 | x :: r, off => by rw [znd_, List.map_cons, zRn_ pid p2 r]; rfl
structure GoodP (q : PSt) (ts : List Tx) : Prop where
 b : q.1 = zxg_ ++ zH_ ts
 d : q.2.1 = zbd_ ts
 i : q.2.2.1 = znd_ ⟨#[]⟩ ts 5
 m : ∀ id, lkM id q.2.2.2 = none ↔ id ∉ ts.map idT
 n : (ts.map idT).Nodup
 k : ∀ x ∈ ts, okT x
theorem GoodP.nil : GoodP st0P [] := ⟨by simp [st0P, zH_], rfl, rfl, fun id => by simp [st0P, lkM], List.nodup_nil, fun x hx => by cases hx⟩
theorem GoodP.add {q : PSt} {ts : List Tx} (G : GoodP q ts) {c : Nat} {t : ByteArray} (hx : okT (c, t)) (hn : lkM (idB c (bl t)) q.2.2.2 = none) : GoodP (addQ q c t) (ts ++ [(c, t)]) := by
 have hid := (G.m (idB c (bl t))).1 hn
 refine ⟨?_, ?_, ?_, fun id => ?_, ?_, fun x h => ?_⟩
 ·show q.1 ++ encP c (bl t) = _
  rw [G.b, List.append_assoc]; simp [zH_]
 ·show q.2.1 ++ zpb_ c t = _
  rw [G.d]; simp [zbd_]
 ·show q.2.2.1 ++ [itP q c t] = _
  rw [G.i, zOs_]
  congr 2
  unfold itP
  rw [G.b, List.length_append]
  rfl
 ·show lkM id (ptM (idB c (bl t)) t q.2.2.2.length q.2.2.2) = none ↔ _
  rw [zZg_, List.map_append, List.mem_append]
  by_cases e : id = idB c (bl t)
  ·rw [if_pos e]
   constructor
   ·intro h; cases h
   ·intro h; exact absurd (.inr (by rw [e]; simp [idT])) h
  ·rw [if_neg e, G.m id]
   constructor
   ·rintro h (w | w)
    ·exact h w
    ·simp [idT] at w; exact e w
   ·intro h w; exact h (.inl w)
 ·rw [List.map_append, List.nodup_append]
  refine ⟨G.n, by simp, fun a ha b hb e => ?_⟩
  simp [idT] at hb
  rw [hb] at e
  exact hid (e ▸ ha)
 ·rcases List.mem_append.1 h with h | h
  ·exact G.k x h
  ·rw [List.mem_singleton.1 h]; exact hx
theorem zEs_ (c : Nat) (t : ByteArray) (ht : t.size ≤ 60000) : (zpb_ c t).length ≤ 39 ∧ 35 ≤ (zpb_ c t).length := by
 have bt : (bl t).length = t.size := zh_ t
 obtain ⟨e1, e2⟩ := zZh_ (c := c) (t := bl t) (by omega)
 have l1 := zJb_ 2 (encP c (bl t)).length (by omega)
 have l2 := zJb_ 2 t.size (by omega)
 have p1 := zdp_ (encP c (bl t)).length
 have p2 := zdp_ t.size
 unfold zpb_ zbp_
 simp only [List.length_append, List.length_cons]
 have : (bl (idB c (bl t))).length = 32 := rfl
 omega
theorem zWB_ {x : Tx} (h : okT x) (r : List UInt8) : opL (some (zpb_ x.1 x.2 ++ r)) = ((idT x, x.1, lenT x, x.2.size), some r) := by
 obtain ⟨hc, hs⟩ := h
 have bt : (bl x.2).length = x.2.size := zh_ x.2
 obtain ⟨e1, e2⟩ := zZh_ (c := x.1) (t := bl x.2) (by omega)
 have e32 : (bl (idT x)).length = 32 := rfl
 have eq : zpb_ x.1 x.2 ++ r = bl (idT x) ++ (UInt8.ofNat x.1 :: (leb (lenT x) ++ (leb x.2.size ++ r))) := by
  unfold zpb_ zbp_ idT lenT
  simp
 have oB : opB 32 (some (zpb_ x.1 x.2 ++ r)) = (idT x, some (UInt8.ofNat x.1 :: (leb (lenT x) ++ (leb x.2.size ++ r)))) := by
  rw [eq]
  unfold opB
  simp only []
  rw [if_pos (by rw [List.length_append, e32]; omega), ← e32, List.take_left, List.drop_left]
  rfl
 have oc : (UInt8.ofNat x.1).toNat = x.1 := by rw [UInt8.toNat_ofNat']; omega
 have oS : ∀ {n : Nat} (r : List UInt8), n ≤ 65536 → opS 65536 (some (leb n ++ r)) = (n, some r) := fun r hn => by
  unfold opS
  rw [Option.bind_some, zYz_ hn]
 unfold opL
 simp only [oB]
 have oF : opF (some (UInt8.ofNat x.1 :: (leb (lenT x) ++ (leb x.2.size ++ r)))) = (x.1, some (leb (lenT x) ++ (leb x.2.size ++ r))) := by
  unfold opF; simp only []; rw [oc]
 simp only [oF]
 rw [oS (n := lenT x) _ (by unfold lenT; omega)]
 simp only []
 rw [oS _ (by omega)]
theorem zbr_ (pid : ByteArray) (fr : Nat) : ∀ (ts : List Tx) (at' : Nat) (es : List (ByteArray × Bool × Nat)), (∀ x ∈ ts, okT x) → (ts.map idT).Nodup → (∀ x ∈ ts, lkM (idT x) es = none) → at' + (zH_ ts).length ≤ fr →
  znc_ pid fr ts.length (some (zbd_ ts)) at' es = some (znd_ pid ts at', some [], at' + (zH_ ts).length)
 | [], at', es, _, _, _, _ => by simp [znc_, zbd_, znd_, zH_]
 | x :: r, at', es, hk, hn, he, hl => by
  have hx := hk x (by simp)
  have bt : (bl x.2).length = x.2.size := zh_ x.2
  obtain ⟨e1, e2⟩ := zZh_ (c := x.1) (t := bl x.2) (by have := hx.2; omega)
  have lb : (zH_ (x :: r)).length = lenT x + (zH_ r).length := by unfold zH_ lenT; rw [List.flatMap_cons, List.length_append]
  have ll : zbd_ (x :: r) = zpb_ x.1 x.2 ++ zbd_ r := by unfold zbd_; rw [List.flatMap_cons]
  rw [List.map_cons, List.nodup_cons] at hn
  rw [ll, List.length_cons]
  unfold znc_
  rw [zWB_ hx]
  have hle : 1 ≤ lenT x := by unfold lenT; omega
  rw [if_pos ⟨rfl, hx.1, hle, by show lenT x ≤ fr - at'; omega, by show (lkM (idT x) es).getD false = false; rw [he x (by simp)]; rfl⟩]
  show (znc_ pid fr r.length (some (zbd_ r)) (at' + lenT x) (ptM (idT x) true es.length es)).map _ = _
  rw [zbr_ pid fr r (at' + lenT x) _ (fun y hy => hk y (by simp [hy])) hn.2 (fun y hy => ?_) (by omega)]
  ·rw [Option.map_some, lb, show at' + lenT x + (zH_ r).length = at' + (lenT x + (zH_ r).length) by omega]
   rfl
  ·rw [zZg_, if_neg (fun e => hn.1 (by rw [← e]; exact List.mem_map_of_mem hy)), he y (by simp [hy])]
theorem zzs_ {q : PSt} {ts : List Tx} (G : GoodP q ts) (hts : ts.length ≤ 4096) (hl : (finB q).length ≤ 65536) (hne : ts ≠ []) : zoc_ (finB q) = some (finI q) := by
 have hlen : 0 < ts.length := List.length_pos_iff.2 hne
 have li : q.2.2.1.length = ts.length := by rw [G.i, zPi_]
 have l1 : q.1.length = 5 + (zH_ ts).length := by rw [G.b, List.length_append]; rfl
 have ll := zdp_ q.2.2.1.length
 have dl : (dirB q).length = (leb q.2.2.1.length).length + q.2.1.length := List.length_append
 have fl : (B.fixL (dirB q).length 4).length = 4 := B.fixL_length _ _
 have lF : (finB q).length = q.1.length + ((dirB q).length + (4 + 4)) := by unfold finB; simp only [List.length_append, fl]; rfl
 have e8 : (finB q).length - 8 = q.1.length + (dirB q).length := by omega
 have d8 : (finB q).drop (q.1.length + (dirB q).length) = B.fixL (dirB q).length 4 ++ endB := by
  unfold finB
  rw [← List.append_assoc, ← List.length_append, List.drop_left]
 have t8 : (finB q).take (q.1.length + (dirB q).length) = q.1 ++ dirB q := by
  unfold finB
  rw [← List.append_assoc, ← List.length_append, List.take_left]
 have n4 : B.numL 0 ((B.fixL (dirB q).length 4 ++ endB).take 4) = (dirB q).length := by
  rw [List.take_append_of_le_length (by omega), List.take_of_length_le (by omega), B.num_fix, Nat.mod_eq_of_lt (by omega)]
 have hp : zZc_ (finB q) = some (q.1.length, dirB q) := by
  unfold zZc_
  rw [e8, d8, n4, t8]
  have h1 : (finB q).take 5 = zxg_ := by
   unfold finB
   rw [G.b, List.append_assoc, List.take_append_of_le_length (by decide)]; rfl
  have h2 : (finB q).drop ((finB q).length - 4) = endB := by
   have e : finB q = (q.1 ++ (dirB q ++ B.fixL (dirB q).length 4)) ++ endB := by unfold finB; simp
   have e4 : (finB q).length - 4 = (q.1 ++ (dirB q ++ B.fixL (dirB q).length 4)).length := by simp only [List.length_append, fl]; omega
   rw [e4, e, List.drop_left]
  rw [if_pos ⟨hl, by omega, h1, h2⟩, if_neg (by omega), show q.1.length + (dirB q).length - (dirB q).length = q.1.length by omega, List.drop_left]
 unfold zoc_
 rw [hp]
 simp only []
 have oS : opS 4096 (some (dirB q)) = (ts.length, some (zbd_ ts)) := by
  unfold opS dirB
  rw [Option.bind_some, li, G.d]
  have : pS 4096 (leb ts.length ++ zbd_ ts) = some (ts.length, zbd_ ts) := by
   unfold pS
   rw [zRr_ 8 _ (by omega) (fun h => by cases h)]
   simp; omega
  rw [this]
 rw [oS]
 simp only []
 rw [zbr_ _ _ ts 5 [] G.k G.n (fun x _ => rfl) (by omega)]
 simp only []
 rw [if_pos ⟨trivial, by omega⟩]
 unfold finI
 rw [G.i, zRn_]
section
variable {k pb mb : Nat} {H H' : AHeap} {s1 s2 si : Slc} {lim : Int} {q : PSt}
theorem PB.chgO {S : Nat → Prop} (B : PB H pb mb s1 s2 si lim q) (c : Chg S H H') (hs : ∀ y, OwnP pb mb s1 s2 si y → ¬ S y) : PB H' pb mb s1 s2 si lim q := by
 have nx := c.nx
 have hm := B.mlt
 have hl := B.lt
 obtain ⟨p1, p2, g, h1, h2⟩ := B.g
 exact ⟨⟨p1, p2, c.got hl (hs _ (.inl rfl)) g, h1, h2⟩, B.A1.chg c fun a ha => hs _ (.inr (.inr (.inl ⟨a, ha, rfl⟩))), B.A2.chg c fun a ha => hs _ (.inr (.inr (.inr (.inl ⟨a, ha, rfl⟩)))),
  B.A3.chg c fun a ha => hs _ (.inr (.inr (.inr (.inr ⟨a, ha, rfl⟩)))), B.M.chg c hm.2 (hs _ (.inr (.inl rfl))), by omega, by omega, B.ap⟩
theorem zxh_ {base : Nat} {s : Slc} {l : List ByteArray} {a : Addr} (A : Acc encS 9 base H s l) (ha : s.a = some a) : ∃ c, H.get a.block = some (.cells c 9 true 0) := by
 rcases A.st with ⟨h, _⟩ | ⟨b, g⟩
 ·rw [h] at ha; cases ha
 ·rw [g.s] at ha; cases ha; exact ⟨_, g.blk⟩
theorem PB.notS (B : PB H pb mb s1 s2 si lim q) {base : Nat} {s : Slc} {l : List ByteArray} (A : Acc encS 9 base H s l) : ∀ y, ofS s y → ¬ OwnP pb mb s1 s2 si y := fun y ⟨a, ha, e⟩ => by
 obtain ⟨c, g⟩ := zxh_ A ha
 rw [e]
 exact B.other g (by decide) (by decide) (by decide)
end
theorem zCw_ {k : Nat} {h : AHeap} (D : za_) (kg : KG 0 h) (hk : 1200000 ≤ k) {s : ByteArray} (hs : s.size ≤ 1000000) {c off : Nat} (hc : c = 1 ∨ c = 2) {t pid : ByteArray} (ht : t.size ≤ 3000) (ho : off + (encP c (bl t)).length ≤ s.size)
  (he : ((bl s).drop off).take (encP c (bl t)).length = encP c (bl t)) :
  Gx.Wp (zKf_ k D s (pid, (c : Int), (off : Int), ((encP c (bl t)).length : Int), (t.size : Int)) (idB c (bl t)) h) fun z => z.1 = ((c : Int), t, 0) ∧ zc_ h z.2 := by
 simp only [zKf_]
 have bt : (bl t).length = t.size := zh_ t
 have bs : (bl s).length = s.size := zh_ s
 obtain ⟨e1, e2⟩ := zZh_ (c := c) (t := bl t) (by omega)
 obtain ⟨n, en⟩ : ∃ n, n = (encP c (bl t)).length := ⟨_, rfl⟩
 rw [← en] at ho he e1 e2 ⊢
 refine Wp.newE fun h1 e1' k1 n1 g1 => Wp.jn fun j7 h7 => ?_
 refine .bnd (zp_ g1 rfl) (.ifn (fun w => by have := of_decide_eq_true w; omega) (.bnd (zp_ g1 rfl) (.ifn (fun w => by have := of_decide_eq_true w; omega) (.bnd (zp_ g1 rfl) (.ifn (fun w => by have := of_decide_eq_true w; omega) (.bnd (zp_ g1 rfl) (.bnd (zp_ g1 rfl) ?_)))))))
 rw [show IntKind.wrap .i64 ((s.size : Int) - (off : Int)) = ((s.size - off : Nat) : Int) by rw [Gx.w64 _ (by omega)]; omega, h7]
 refine .ifn (fun w => by have := of_decide_eq_true w; omega) (.bnd rfl (.bnd (zp_ (o := 0 + 2) g1 rfl) (.bnd rfl (.bnd (zp_ (o := 0 + 2) g1 rfl) (.bnd rfl (.bnd (zp_ (o := 0 + 3) g1 rfl) ?_))))))
 rw [show IntKind.wrap .i64 ((off : Int) + (n : Int)) = ((off + n : Nat) : Int) by rw [Gx.w64 _ (by omega)]; omega]
 refine .bnd (zFb_ (i := off) (j := off + n) rfl rfl (by omega) ho) ?_
 rw [List.drop_take, show off + n - off = n by omega, he]
 refine .call (zRs_ D (kg.chg k1 fun f => f) hk (by rw [zXb_, ← en]; omega) (idB c (bl t))) fun r15 ⟨q15, k15⟩ => ?_
 have e15 : r15.1 = ((c : Int), t, 0) := by
  rw [q15, zre_]; unfold opnV; rw [zfC_ hc (by omega)]; simp only []; rw [if_pos trivial]; rfl
 have g15 := k15.got (by omega) g1
 rw [e15]
 refine .ifn (by simp) (Wp.jn fun j20 h20 => .bnd rfl (.bnd (zp_ (o := 0 + 1) g15 rfl) (.ifn (by simp) (.bnd rfl (.bnd (zp_ (o := 0 + 4) g15 rfl) ?_)))))
 rw [h20]
 exact .ifn (by simp) (.of ⟨rfl, k1.trans k15⟩)
structure L1 (h H : AHeap) (pb mb : Nat) (s1 s2 si w ids : Slc) (q : PSt) (ts : List Tx) : Prop where
 kp : zc_ h H
 hp : h.next ≤ pb
 B : PB H pb mb s1 s2 si 65536 q
 G : GoodP q ts
 sm : ∀ x ∈ ts, x.2.size ≤ 300
 W : Acc encS 9 h.next H w (ts.map (·.2))
 I : Acc encS 9 h.next H ids (ts.map idT)
 ap : zFu_ w ids
section
variable {k pb : Nat} {h : AHeap} {texts : Slc} {xs : List ByteArray}
end
theorem zDo_ (pid : ByteArray) : ∀ (ts : List Tx) (off i : Nat) (x : Tx), ts[i]? = some x → (znd_ pid ts off)[i]? = some (idT x, pid, (x.1 : Int), ((off + (zH_ (ts.take i)).length : Nat) : Int), (lenT x : Int), (x.2.size : Int))
 | [], _, i, x, h => by simp at h
 | y :: r, off, 0, x, h => by simp at h; subst h; simp [znd_, zH_]
 | y :: r, off, i + 1, x, h => by
  rw [znd_, List.getElem?_cons_succ, zDo_ pid r (off + lenT y) i x (by simpa using h), List.take_succ_cons]
  have : (zH_ (y :: r.take i)).length = lenT y + (zH_ (r.take i)).length := by unfold zH_ lenT; rw [List.flatMap_cons, List.length_append]
  rw [this, show off + lenT y + (zH_ (r.take i)).length = off + (lenT y + (zH_ (r.take i)).length) by omega]
theorem zjy_ (a b : List Tx) : zH_ (a ++ b) = zH_ a ++ zH_ b := by simp [zH_]
theorem zFz_ {q : PSt} {ts : List Tx} (G : GoodP q ts) {i : Nat} {x : Tx} (hx : ts[i]? = some x) :
  ((finB q).drop (5 + (zH_ (ts.take i)).length)).take (lenT x) = encP x.1 (bl x.2) ∧ 5 + (zH_ (ts.take i)).length + lenT x ≤ (finB q).length := by
 have e : ts = ts.take i ++ (x :: ts.drop (i + 1)) := by rw [← zKd_ hx, List.take_append_drop]
 have eb : zH_ ts = zH_ (ts.take i) ++ (encP x.1 (bl x.2) ++ zH_ (ts.drop (i + 1))) := by
  conv => lhs; rw [e]
  rw [zjy_]
  congr 1
 have ef : finB q = (zxg_ ++ zH_ (ts.take i)) ++ (encP x.1 (bl x.2) ++ (zH_ (ts.drop (i + 1)) ++ (dirB q ++ (B.fixL (dirB q).length 4 ++ endB)))) := by
  unfold finB
  rw [G.b, eb]; simp
 have l5 : (zxg_ ++ zH_ (ts.take i)).length = 5 + (zH_ (ts.take i)).length := by rw [List.length_append]; rfl
 constructor
 ·rw [ef, ← l5, List.drop_left]
  unfold lenT
  rw [List.take_left]
 ·rw [ef, List.length_append, l5, List.length_append]
  unfold lenT
  omega
section
variable {k : Nat} {h : AHeap}
end
def zI : List Value := [.string ⟨#[]⟩, .string ⟨#[]⟩, .int .i64 0, .int .i64 0, .int .i64 0, .int .i64 0]
theorem zxD_ (n : Nat) : (zu_ n zI).length = n * 6 := by rw [zmc_]; simp [List.length_flatten, zI]
theorem zxC_ (n m : Nat) : (zu_ n zI).drop (m * 6) = zu_ (n - m) zI := by
 rw [zmc_, zmc_]
 induction m generalizing n with
 | zero => simp
 | succ m ih =>
  cases n with
  | zero => simp
  | succ n =>
   rw [List.replicate_succ, List.flatten_cons, show (m + 1) * 6 = zI.length + m * 6 by rw [show zI.length = 6 from rfl]; omega, List.drop_length_add_append, ih]
   congr 2; omega
def zRb_ (F : Nat → List It) (i : Nat) : List It := (List.range i).flatMap F
def allF (F : Nat → List It) : List It := zRb_ F 256
theorem zWh_ (F : Nat → List It) (i : Nat) : zRb_ F (i + 1) = zRb_ F i ++ F i := by simp [zRb_, List.range_succ]
theorem zVd_ (F : Nat → List It) : ∀ i, (zRb_ F i).length = zw_ F i
 | 0 => rfl
 | i + 1 => by rw [zWh_, List.length_append, zVd_ F i, zwd_]
theorem zcj_ (F : Nat → List It) {i j : Nat} (h : i ≤ j) : zw_ F i ≤ zw_ F j := by
 induction j with
 | zero =>
  have : i = 0 := by omega
  subst this; exact Nat.le_refl _
 | succ j ih =>
  by_cases e : i = j + 1
  ·subst e; exact Nat.le_refl _
  ·rw [zwd_]; have := ih (by omega); omega
section
variable {k base tb : Nat} {h : AHeap} {sl : Nat → Slc} {F : Nat → List It} {s : Slc} {xs : List It}
theorem zGd_.rdS (A : zGd_ base h tb s xs) : Gx.rdS 6 s h = some (xs.flatMap itC) := by
 rcases A with ⟨rfl, rfl⟩ | ⟨b, sp, cap, R, A⟩
 ·rfl
 ·rw [A.s]
  simp only [Gx.rdS]
  rw [zkf_ A.blk (by rw [List.length_append, zlc_]; omega), List.drop_zero, show xs.length * 6 = (xs.flatMap itC).length from (zlc_ xs).symm, List.take_left']
  rfl
theorem zjB_ (l ys : List It) (n m : Nat) (hm : m = l.length) : (l.flatMap itC ++ zu_ n zI).drop (0 + m * 6 + (ys.flatMap itC).length) = zu_ (n - ys.length) zI := by
 subst hm
 rw [List.drop_append, List.drop_of_length_le (by rw [zlc_]; omega), List.nil_append, zlc_, zlc_, show 0 + l.length * 6 + ys.length * 6 - l.length * 6 = ys.length * 6 by omega, zxC_]
theorem zKz_ (D : za_) (n : Nat) (hn : n ≤ 1000000000) (h : AHeap) : zOb_ k D ⟨none, 0, 0⟩ (n : Int) h =
  some (if n = 0 then (⟨none, 0, 0⟩, h) else (⟨some ⟨h.next, 0, some 7⟩, 0, n⟩, h.new (.cells (zu_ n zI) 57 true 0))) := by
 simp only [zOb_]
 refine jn (ifn (by simp) (jn (bnd rfl ?_)))
 have e0 : IntKind.wrap .i64 (0 - ((0 : Nat) : Int)) = 0 := by decide
 have e1 : IntKind.wrap .i64 ((n : Int) - 0) = (n : Int) := by rw [Gx.w64 _ (by omega)]; omega
 dsimp only
 rw [show (((0 : Nat) : Int) : Int) = 0 from rfl] at *
 rw [show IntKind.wrap .i64 ((0 : Int) - 0) = 0 from rfl, e1]
 by_cases c : n = 0
 ·subst c
  exact ifn (by decide) (by rfl)
 ·rw [if_neg c]
  refine ifp (by simp; omega) (bnd rfl (bnd (v := ⟨none, 0, 0⟩) rfl (ifp (by omega) ?_)))
  have ea : zl_ 6 64 57 h ⟨none, 0, 0⟩ (zu_ (n : Int).toNat zI) (n : Int).toNat = some (⟨some ⟨h.next, 0, some 7⟩, n, n⟩, h.new (.cells (zu_ n zI) 57 true 0)) := by
   unfold zl_
   rw [Int.toNat_natCast, if_neg (by show ¬ 0 + n ≤ 0; omega), if_pos (by show 2 * (0 + n) * 64 ≤ 281474976710656 ∧ 1 ≤ 64; omega)]
  refine bnd ea (bnd (zfp_ (hi := 0) (by rfl) (Nat.zero_le _)) rfl)
theorem zeC_ (hk : 300 ≤ k) (D : za_) (T : Tab base h tb sl F) (hN : zw_ F 256 ≤ 1000000000) :
  Gx.Wp (zbf_ k D (some ⟨tb, 0, none⟩) h) fun z => AccW 6 itC 57 h.next z.2 z.1 (allF F) ∧ zc_ h z.2 := by
 simp only [zbf_]
 have es : Gx.subA 256 1 ⟨tb, 0 + 0, none⟩ none none none = some ⟨some ⟨tb, 0, some 0⟩, 256, 256⟩ := rfl
 refine .bnd rfl (.bnd es ?_)
 suffices hs : Gx.Wp (zEb_ k D ⟨some ⟨tb, 0, some 0⟩, 256, 256⟩ h) fun z => AccW 6 itC 57 h.next z.2 z.1 (allF F) ∧ zc_ h z.2 from .call hs fun r q => .of q
 simp only [zEb_]
 have hix : ∀ i : Nat, i < 256 → Gx.idxL 1 ⟨some ⟨tb, 0, some 0⟩, 256, 256⟩ (i : Int) = some ⟨tb, i, none⟩ := fun i hi => by
  simp only [idxL]
  rw [if_pos (by omega)]
  simp
 refine Gx.Wp.jn fun j4 h4 => ?_
 unfold zcd_
 obtain ⟨bot, eb⟩ := zq_ (fun _ _ _ _ _ _ => none) (zT_ k D j4) (show 256 + 1 ≤ k by omega)
 rw [eb]
 have cm : ∀ i, i ≤ 256 → zw_ F i ≤ 1000000000 := fun i hi => Nat.le_trans (zcj_ F hi) hN
 have loop : ∀ (d i : Nat), i + d = 256 → Gx.Wp (zi_ bot (d + 1) (zT_ k D j4) ⟨some ⟨tb, 0, some 0⟩, 256, 256⟩ (zw_ F i : Int) ⟨some ⟨tb, 0, some 0⟩, 256, 256⟩ 256 (i : Int) h) fun z => AccW 6 itC 57 h.next z.2 z.1 (allF F) ∧ zc_ h z.2 := fun d => by
  induction d with
  | succ d ih =>
   intro i hd
   rw [zg_]; simp only [zT_]
   have S := T.slot i (by omega)
   have hc := cm (i + 1) (by omega)
   rw [zwd_] at hc
   refine .ifp (by simp; omega) (Gx.Wp.jn fun j32 h32 => .bnd (hix i (by omega)) (.bnd (zB_ T.blk (zCd_ _ (by omega))) ?_))
   have ew : IntKind.wrap .i64 ((zw_ F i : Int) + ((sl i).len : Int)) = (zw_ F (i + 1) : Int) := by
    rw [Gx.w64 _ (by rw [S.len]; omega), zwd_, S.len]; omega
   dsimp only
   rw [ew]
   refine .ifn (by simp) ?_
   rw [h32]
   dsimp only
   rw [Gx.w1 (by omega)]
   exact ih (i + 1) (by omega)
  | zero =>
   intro i hd
   obtain rfl : i = 256 := by omega
   rw [zg_]; simp only [zT_]
   refine .ifn (by decide) ?_
   rw [h4]
   refine .bnd (zKz_ D (zw_ F 256) hN h) (Gx.Wp.jn fun j8 h8 => ?_)
   unfold zgd_
   obtain ⟨bot2, eb2⟩ := zq_ (fun _ _ _ _ _ => none) (zC_ k D j8) (show 256 + 1 ≤ k by omega)
   rw [eb2]
   by_cases c0 : zw_ F 256 = 0
   ·rw [if_pos c0]
    have hz : ∀ i, i < 256 → F i = [] := fun i hi => by
     have := zcj_ F (show i + 1 ≤ 256 by omega)
     rw [zwd_] at this
     exact List.length_eq_zero_iff.1 (by omega)
    have fin : ∀ (d i : Nat), i + d = 256 → Gx.Wp (zi_ bot2 (d + 1) (zC_ k D j8) ⟨none, 0, 0⟩ ⟨some ⟨tb, 0, some 0⟩, 256, 256⟩ 256 (i : Int) h) fun z => AccW 6 itC 57 h.next z.2 z.1 (allF F) ∧ zc_ h z.2 := fun d => by
     induction d with
     | zero =>
      intro i hd
      obtain rfl : i = 256 := by omega
      rw [zg_]; simp only [zC_]
      refine .ifn (by decide) ?_
      rw [h8]
      have : allF F = [] := List.length_eq_zero_iff.1 (by unfold allF; rw [zVd_]; exact c0)
      rw [this]
      exact .of ⟨AccW.nil _ _ _ _ _, .refl _ _⟩
     | succ d ih =>
      intro i hd
      rw [zg_]; simp only [zC_]
      have S := T.slot i (by omega)
      have hl : (sl i).len = 0 := by rw [S.len, hz i (by omega)]; rfl
      refine .ifp (by simp; omega) (.bnd (hix i (by omega)) (.bnd (zB_ T.blk (zCd_ _ (by omega))) (.bnd S.rdS ?_)))
      have ea : zl_ 6 64 57 h ⟨none, 0, 0⟩ ((F i).flatMap itC) (sl i).len = some (⟨none, 0, 0⟩, h) := by
       unfold zl_
       rw [hl, if_pos (Nat.le_refl _)]
      refine .bnd ea ?_
      rw [Gx.w1 (by omega)]
      exact ih (i + 1) (by omega)
    exact fin 256 0 (by omega)
   ·rw [if_neg c0]
    have fin : ∀ (d i : Nat) (H : AHeap), i + d = 256 → zc_ h H → h.next < H.next → H.get h.next = some (.cells ((zRb_ F i).flatMap itC ++ zu_ (zw_ F 256 - zw_ F i) zI) 57 true 0) →
      Gx.Wp (zi_ bot2 (d + 1) (zC_ k D j8) ⟨some ⟨h.next, 0, some 7⟩, zw_ F i, zw_ F 256⟩ ⟨some ⟨tb, 0, some 0⟩, 256, 256⟩ 256 (i : Int) H) fun z => AccW 6 itC 57 h.next z.2 z.1 (allF F) ∧ zc_ h z.2 := fun d => by
     induction d with
     | zero =>
      intro i H hd kp hlt hg
      obtain rfl : i = 256 := by omega
      rw [zg_]; simp only [zC_]
      refine .ifn (by decide) ?_
      rw [h8]
      have hl : (allF F).length = zw_ F 256 := zVd_ F 256
      rw [Nat.sub_self, show zu_ 0 zI = [] from rfl, List.append_nil] at hg
      refine .of ⟨⟨.inr ⟨h.next, by rw [hl], hg, fun e => c0 (by rw [← hl, e]; rfl)⟩, fun a ha => by cases ha; exact ⟨hlt, Nat.le_refl _⟩⟩, kp⟩
     | succ d ih =>
      intro i H hd kp hlt hg
      rw [zg_]; simp only [zC_]
      have T' := T.keeps kp
      have S := T'.slot i (by omega)
      have hcm := zcj_ F (show i + 1 ≤ 256 by omega)
      rw [zwd_] at hcm
      have ef : zRb_ F (i + 1) = zRb_ F i ++ F i := zWh_ F i
      have elen : ((zRb_ F i).flatMap itC).length = zw_ F i * 6 := by rw [zlc_, zVd_]
      refine .ifp (by simp; omega) (.bnd (hix i (by omega)) (.bnd (zB_ T'.blk (zCd_ _ (by omega))) (.bnd S.rdS ?_)))
      by_cases ce : F i = []
      ·have hl : (sl i).len = 0 := by rw [S.len, ce]; rfl
       have ea : zl_ 6 64 57 H ⟨some ⟨h.next, 0, some 7⟩, zw_ F i, zw_ F 256⟩ ((F i).flatMap itC) (sl i).len = some (⟨some ⟨h.next, 0, some 7⟩, zw_ F i, zw_ F 256⟩, H) := by
        unfold zl_
        rw [hl, if_pos (by show zw_ F i + 0 ≤ zw_ F 256; omega)]
        rfl
       refine .bnd ea ?_
       rw [Gx.w1 (by omega)]
       have e2 : zw_ F (i + 1) = zw_ F i := by rw [zwd_, ce]; rfl
       have := ih (i + 1) H (by omega) kp hlt (by rw [ef, ce, List.append_nil, e2]; exact hg)
       rw [e2] at this
       exact this
      ·have hne : (F i).flatMap itC ≠ [] := fun e => by
        have := zlc_ (F i)
        rw [e] at this
        exact ce (List.length_eq_zero_iff.1 (by simp at this; omega))
       have hlz : (F i).length ≠ 0 := fun e => ce (List.length_eq_zero_iff.1 e)
       have hclen : ((zRb_ F i).flatMap itC ++ zu_ (zw_ F 256 - zw_ F i) zI).length = zw_ F 256 * 6 := by
        rw [List.length_append, elen, zxD_]; omega
       have ew := zAi_ (o := 0 + zw_ F i * 6) (vs := (F i).flatMap itC) hg (by rw [hclen, zlc_, Nat.zero_add, ← Nat.add_mul]; exact Nat.mul_le_mul_right _ hcm) (zBu_ _) hne
       have esp : zx_ ((zRb_ F i).flatMap itC ++ zu_ (zw_ F 256 - zw_ F i) zI) (0 + zw_ F i * 6) ((F i).flatMap itC) = (zRb_ F (i + 1)).flatMap itC ++ zu_ (zw_ F 256 - zw_ F (i + 1)) zI := by
        unfold zx_
        have e1 : ((zRb_ F i).flatMap itC ++ zu_ (zw_ F 256 - zw_ F i) zI).take (0 + zw_ F i * 6) = (zRb_ F i).flatMap itC := by rw [Nat.zero_add, ← elen, List.take_left']; rfl
        have e2 := zjB_ (zRb_ F i) (F i) (zw_ F 256 - zw_ F i) (zw_ F i) (zVd_ F i).symm
        rw [Nat.sub_sub, ← zwd_ F i] at e2
        rw [e1, e2, ef, List.flatMap_append]
       rw [esp] at ew
       have ea : zl_ 6 64 57 H ⟨some ⟨h.next, 0, some 7⟩, zw_ F i, zw_ F 256⟩ ((F i).flatMap itC) (sl i).len = some (⟨some ⟨h.next, 0, some 7⟩, zw_ F (i + 1), zw_ F 256⟩, H.set h.next (.cells ((zRb_ F (i + 1)).flatMap itC ++ zu_ (zw_ F 256 - zw_ F (i + 1)) zI) 57 true 0)) := by
        unfold zl_
        rw [S.len, if_pos (by show zw_ F i + (F i).length ≤ zw_ F 256; exact hcm)]
        simp only
        rw [if_neg hlz, ew, zwd_ F i]
        rfl
       refine .bnd ea ?_
       rw [Gx.w1 (by omega)]
       exact ih (i + 1) _ (by omega) (kp.set (Nat.le_refl _)) (by simpa using hlt) (by simp)
    have := fin 256 0 (h.new (.cells (zu_ (zw_ F 256) zI) 57 true 0)) (by omega) (zc_.new h _) (by simp) (by simp [zRb_, zw_])
    exact this
 exact loop 256 0 (by omega)
end
theorem zIv_ (pid : ByteArray) (hp : pid.size = 32) (fr : Nat) (hf : fr ≤ 65536) : ∀ (n : Nat) (st : Rd) (at' : Nat) (es : List (ByteArray × Bool × Nat)) {its st' at''}, at' ≤ fr → znc_ pid fr n st at' es = some (its, st', at'') → (∀ x ∈ its, okI x) ∧ its.length = n
 | 0, st, at', es, its, st', at'', _, h => by
  simp only [znc_] at h
  cases h
  exact ⟨fun x hx => (List.not_mem_nil hx).elim, rfl⟩
 | n + 1, st, at', es, its, st', at'', hat, h => by
  unfold znc_ at h
  split at h
  ·rename_i c
   cases hq : znc_ pid fr n (opL st).2 (at' + (opL st).1.2.2.1) (ptM (opL st).1.1 true es.length es) with
   | none => rw [hq] at h; cases h
   | some y =>
    obtain ⟨a, b, d⟩ := y
    rw [hq] at h
    simp only [Option.map_some, Option.some.injEq, Prod.mk.injEq] at h
    obtain ⟨rfl, _, _⟩ := h
    obtain ⟨i1, i2⟩ := zIv_ pid hp fr hf n _ _ _ (by omega) hq
    refine ⟨fun x hx => ?_, by simp [i2]⟩
    rcases List.mem_cons.1 hx with rfl | hx
    ·have hsz : (opL st).1.1.size = 32 := by
      have hs := c.1
      unfold opL at hs ⊢
      simp only [] at hs ⊢
      cases hst : st with
      | none => rw [hst] at hs; simp [opB, opF, opS] at hs
      | some l =>
       rw [hst] at hs
       unfold opB at hs ⊢
       simp only [] at hs ⊢
       by_cases c32 : 32 ≤ l.length
       ·rw [if_pos c32]; show (bA (l.take 32)).size = 32; rw [zWc_, List.length_take]; omega
       ·rw [if_neg c32] at hs; simp [opF, opS] at hs
     have hd : (opL st).1.2.2.2 ≤ 65536 := zhp_ 65536 _
     refine ⟨hsz, hp, ?_, ?_, ?_, ?_⟩
     ·show ((opL st).1.2.1 : Int) = 1 ∨ ((opL st).1.2.1 : Int) = 2
      omega
     ·show 0 ≤ (at' : Int) ∧ (at' : Int) ≤ 65536
      omega
     ·show 1 ≤ ((opL st).1.2.2.1 : Int) ∧ ((opL st).1.2.2.1 : Int) ≤ 65536
      omega
     ·show 0 ≤ ((opL st).1.2.2.2 : Int) ∧ ((opL st).1.2.2.2 : Int) ≤ 65536
      omega
    ·exact i1 x hx
  ·cases h
theorem zQo_ {l : List UInt8} {its : List It} (h : zoc_ l = some its) : (∀ x ∈ its, okI x) ∧ its.length ≤ 4096 := by
 unfold zoc_ at h
 cases hp : zZc_ l with
 | none => rw [hp] at h; cases h
 | some x =>
  obtain ⟨fr, dir⟩ := x
  rw [hp] at h
  simp only [] at h
  have hpf : fr ≤ 65536 ∧ 5 ≤ fr := by
   unfold zZc_ at hp
   split at hp
   ·rename_i c
    split at hp
    ·cases hp
    ·rename_i c2
     cases hp
     omega
   ·cases hp
  cases he : znc_ ⟨⟨zKi_ l⟩⟩ fr (opS 4096 (some dir)).1 (opS 4096 (some dir)).2 5 [] with
  | none => rw [he] at h; cases h
  | some y =>
   obtain ⟨its', st, at'⟩ := y
   rw [he] at h
   simp only [] at h
   split at h
   ·cases h
    obtain ⟨a, b⟩ := zIv_ ⟨⟨zKi_ l⟩⟩ rfl fr hpf.1 _ _ _ _ hpf.2 he
    exact ⟨a, by rw [b]; exact zhp_ 4096 _⟩
   ·cases h
def zX_ : Nat → List It := fun _ => []
noncomputable def zYe_ (F : Nat → List It) (p : ByteArray) : Nat → List It := match zoc_ (bl p) with
 | some its => addL F its
 | none => F
noncomputable def rebF (ps : List ByteArray) : Nat → List It := ps.foldl zYe_ zX_
theorem zUs_ (ps : List ByteArray) (p : ByteArray) : rebF (ps ++ [p]) = zYe_ (rebF ps) p := by simp [rebF]
theorem zSc_ : zgc_ zX_ := fun _ _ => List.Pairwise.nil
theorem zcB_ {F : Nat → List It} {n : Nat} (h1 : zgc_ F) (h2 : MaxT F n) (p : ByteArray) : zgc_ (zYe_ F p) ∧ MaxT (zYe_ F p) (n + 4096) := by
 unfold zYe_
 cases hp : zoc_ (bl p) with
 | none => exact ⟨h1, fun i hi => by have := h2 i hi; show (F i).length ≤ _; omega⟩
 | some its =>
  have := (zQo_ hp).2
  exact ⟨zKc_ h1, fun i hi => by have := zFj_ (xs := its) h2 i hi; show (addL F its i).length ≤ _; omega⟩
theorem zSC_ : ∀ (ps : List ByteArray), zgc_ (rebF ps) ∧ MaxT (rebF ps) (4096 * ps.length) := by
 have gen : ∀ (ps : List ByteArray) (F : Nat → List It) (n : Nat), zgc_ F → MaxT F n → zgc_ (ps.foldl zYe_ F) ∧ MaxT (ps.foldl zYe_ F) (n + 4096 * ps.length) := fun ps => by
  induction ps with
  | nil => intro F n h1 h2; exact ⟨h1, h2⟩
  | cons p r ih =>
   intro F n h1 h2
   obtain ⟨a, b⟩ := zcB_ h1 h2 p
   obtain ⟨c, d⟩ := ih _ _ a b
   refine ⟨c, fun i hi => ?_⟩
   have := d i hi
   rw [List.length_cons]
   show ((r.foldl zYe_ (zYe_ F p)) i).length ≤ _
   omega
 intro ps
 obtain ⟨a, b⟩ := gen ps zX_ 0 zSc_ (fun i _ => Nat.zero_le _)
 exact ⟨a, fun i hi => by have := b i hi; show ((ps.foldl zYe_ zX_) i).length ≤ _; omega⟩
noncomputable def badN : Nat → List ByteArray → List Int
 | _, [] => []
 | i, p :: ps => match zoc_ (bl p) with
  | some _ => badN (i + 1) ps
  | none => (i : Int) :: badN (i + 1) ps
theorem zNn_ : ∀ (ps : List ByteArray) (i : Nat) (p : ByteArray), badN i (ps ++ [p]) = badN i ps ++ (match zoc_ (bl p) with | some _ => [] | none => [((i + ps.length : Nat) : Int)])
 | [], i, p => by
  simp only [List.nil_append, badN, List.length_nil, Nat.add_zero]
 | q :: r, i, p => by
  simp only [List.cons_append, badN]
  rw [zNn_ r (i + 1) p, List.length_cons, show i + 1 + r.length = i + (r.length + 1) by omega]
  cases zoc_ (bl q) <;> rfl
section
variable {k base tb : Nat} {H H' : AHeap} {sl : Nat → Slc} {F : Nat → List It}
theorem Tab.other (T : Tab base H tb sl F) {y : Nat} {c : List Value} {e : TypeId} {r : Bool} {fz : Nat} (g : H.get y = some (.cells c e r fz)) (h1 : e ≠ 84) (h2 : e ≠ 57) : ¬ TOwn tb sl y := by
 rintro (h | ⟨i, hi, a, ha, h⟩)
 ·rw [h, T.blk] at g; cases g; exact h1 rfl
 ·rcases T.slot i hi with ⟨e1, _⟩ | ⟨b, sp, cap, R, A⟩
  ·rw [e1] at ha; cases ha
  ·have e1 := A.s
   rw [e1] at ha
   cases ha
   have gg := A.blk
   rw [← h] at g
   rw [gg] at g
   cases g
   exact h2 rfl
end
theorem zWq_ {base : Nat} {H : AHeap} {s : Slc} {l : List Int} {a : Addr} (A : Acc encI 3 base H s l) (ha : s.a = some a) : ∃ c, H.get a.block = some (.cells c 3 true 0) := by
 rcases A.st with ⟨h, _⟩ | ⟨b, g⟩
 ·rw [h] at ha; cases ha
 ·rw [g.s] at ha; cases ha; exact ⟨_, g.blk⟩
section
variable {k : Nat} {h : AHeap} {packs : Slc} {ps : List ByteArray}
theorem zHB_ (kg : KG 0 h) (hk : 2000000 ≤ k) (R : Row encS h packs ps) (hl : ps.length ≤ 400) {j5 : (Option Addr) → Slc → AHeap → Option (((Option Addr) × Slc) × AHeap)} (hj : j5 = fun (t2 : Option Addr) (bad3 : Slc) (h4 : AHeap) => some ((t2, bad3), h4)) (bot) :
  ∀ (d i : Nat) (bad : Slc) (H : AHeap) (sl : Nat → Slc), i + d = ps.length → zc_ h H → Tab h.next H h.next sl (rebF (ps.take i)) → Acc encI 3 h.next H bad (badN 0 (ps.take i)) →
  Gx.Wp (zi_ bot (d + 1) (zad_ k (DD k) j5) (some ⟨h.next, 0, none⟩) bad packs (packs.len : Int) (i : Int) H) fun z => z.1.1 = some ⟨h.next, 0, none⟩ ∧ (∃ sl, Tab h.next z.2 h.next sl (rebF ps)) ∧ Acc encI 3 h.next z.2 z.1.2 (badN 0 ps) ∧ zc_ h z.2 := by
 have pl : packs.len = ps.length := R.1
 intro d
 induction d with
 | zero =>
  intro i bad H sl hd kp T A
  rw [zg_]; simp only [zad_]
  rw [List.take_of_length_le (by omega)] at T A
  refine .ifn (by rw [pl]; simp; omega) ?_
  rw [hj]
  exact .of ⟨rfl, ⟨sl, T⟩, A, kp⟩
 | succ d ih =>
  intro i bad H sl hd kp T A
  rw [zg_]; simp only [zad_]
  obtain ⟨p, hp⟩ := zv_ (l := ps) (i := i) (by omega)
  obtain ⟨q, a1, a2⟩ := (R.keeps kp).ldS hp
  have et : ps.take (i + 1) = ps.take i ++ [p] := by rw [List.take_add_one, hp]; rfl
  refine .ifp (by rw [pl]; simp; omega) (Wp.jn fun j19 h19 => .bnd a1 (.bnd a2 ?_))
  refine .call (zWn_ (DD k) (kg.chg kp fun f => f) (by omega) p) fun r22 ⟨k22, q22⟩ => ?_
  have T22 := T.keeps k22
  have A22 := A.keeps k22
  have kz := kp.trans k22
  have go : ∀ bad' H' sl', zc_ h H' → Tab h.next H' h.next sl' (rebF (ps.take (i + 1))) → Acc encI 3 h.next H' bad' (badN 0 (ps.take (i + 1))) → Gx.Wp (j19 (some ⟨h.next, 0, none⟩) bad' packs (packs.len : Int) (i : Int) H') fun z => z.1.1 = some ⟨h.next, 0, none⟩ ∧ (∃ sl, Tab h.next z.2 h.next sl (rebF ps)) ∧ Acc encI 3 h.next z.2 z.1.2 (badN 0 ps) ∧ zc_ h z.2 := fun bad' H' sl' kk TT AA => by
   rw [h19]
   dsimp only
   rw [Gx.w1 (by omega)]
   exact ih (i + 1) bad' H' sl' (by omega) kk TT AA
  have hlt : (ps.take i).length = i := by rw [List.length_take]; omega
  have hbl : ∀ (n : Nat) (l : List ByteArray), (badN n l).length ≤ l.length := fun n l => by
   induction l generalizing n with
   | nil => simp [badN]
   | cons x r ih2 =>
    simp only [badN]
    cases zoc_ (bl x) with
    | none => simp only [List.length_cons]; have := ih2 (n + 1); omega
    | some _ => simp only [List.length_cons]; have := ih2 (n + 1); omega
  cases hk0 : zoc_ (bl p) with
  | none =>
   rw [hk0] at q22
   simp only [] at q22
   rw [q22]
   refine .ifp (by simp) (Wp.newE fun h23 e23 k23 n23 g23 => ?_)
   have hb0 := hbl 0 (ps.take i)
   obtain ⟨s', h24, b1, b2, A', c', d'⟩ := Acc.pushK A22 (fun _ => rfl) (i : Int) (bytes := 8) e23 (by omega) (by decide) kz.nx
   refine .bnd b1 (.bnd b2 (go s' h24 sl ?_ ?_ ?_))
   ·exact kz.keepsS c' fun y ⟨a, ha, e⟩ => by rw [e]; exact (A22.lt a ha).2
   ·have : rebF (ps.take (i + 1)) = rebF (ps.take i) := by rw [et, zUs_]; unfold zYe_; rw [hk0]
    rw [this]
    exact T22.chg c' fun y hy ⟨a, ha, e⟩ => by
     obtain ⟨c, g⟩ := zWq_ A22 ha
     rw [← e] at g
     exact T22.other g (by decide) (by decide) hy
   ·have : badN 0 (ps.take (i + 1)) = badN 0 (ps.take i) ++ [(i : Int)] := by rw [et, zNn_, hk0, hlt, Nat.zero_add]
    rw [this]; exact A'
  | some its =>
   rw [hk0] at q22
   obtain ⟨s, q22, As⟩ := q22
   rw [q22]
   obtain ⟨ok1, ok2⟩ := zQo_ hk0
   obtain ⟨rf1, rf2⟩ := zSC_ (ps.take i)
   rw [hlt] at rf2
   have Hn := T.lt
   refine .ifn (by simp) (.call (zLv_ (N := 4096 * i) (by omega) (As.row zG_) (by omega) (by omega) (fun a ha w => by have := (As.lt a ha).2; have := (T.own w).2; omega) kz.nx T22 rf1 rf2 ok1) fun r26 ⟨_, sl', T', c', _⟩ => go bad r26.2 sl' ?_ ?_ ?_)
   ·exact kz.keepsS c' fun y hy => (T22.own hy).1
   ·have : rebF (ps.take (i + 1)) = addL (rebF (ps.take i)) its := by rw [et, zUs_]; unfold zYe_; rw [hk0]
    rw [this]; exact T'
   ·have : badN 0 (ps.take (i + 1)) = badN 0 (ps.take i) := by rw [et, zNn_, hk0, List.append_nil]
    rw [this]
    exact A22.chg c' fun a ha w => by
     obtain ⟨c, g⟩ := zWq_ A22 ha
     exact T22.other g (by decide) (by decide) w
theorem zPt_ (kg : KG 0 h) (hk : 2000000 ≤ k) (R : Row encS h packs ps) (hl : ps.length ≤ 400) :
  Gx.Wp (zIg_ k (DD k) packs h) fun z => z.1.1 = some ⟨h.next, 0, none⟩ ∧ (∃ sl, Tab h.next z.2 h.next sl (rebF ps)) ∧ Acc encI 3 h.next z.2 z.1.2 (badN 0 ps) ∧ zc_ h z.2 := by
 simp only [zIg_]
 obtain ⟨h1, e1, k1, T1⟩ := zPu_ k (DD k) h
 refine .bnd e1 (Wp.jn fun j5 h5 => ?_)
 unfold zNj_
 obtain ⟨bot, eb⟩ := zq_ (fun _ _ _ _ _ _ => none) (zad_ k (DD k) j5) (show ps.length + 1 ≤ k by omega)
 rw [eb, show (0 : Int) = ((0 : Nat) : Int) from rfl]
 have kg' := kg
 have := zHB_ (k := k) kg hk R hl h5 bot ps.length 0 ⟨none, 0, 0⟩ h1 (fun _ => ⟨none, 0, 0⟩) (by omega) k1 T1 (Acc.nil _ _ _ _)
 exact this
end
structure NL (h : AHeap) (t : Slc) (tss : List (List ByteArray)) : Prop where
 len : t.len = tss.length
 at' : ∀ (i : Nat) (l : List ByteArray), tss[i]? = some l → ∃ q s, idxL 1 t (i : Int) = some q ∧ q.block < h.next ∧ ldL q h = some s ∧ Row encS h s l
section
variable {k pb : Nat} {h h0 : AHeap} {texts : Slc} {tss : List (List ByteArray)}
end
section
variable {k rb : Nat} {H H' : AHeap} {st : Rd}
end
section
variable {k rb fb : Nat} {h H H' : AHeap} {st : Rd}
end
section
variable {k : Nat}
end
end Gg
namespace Gg
open Go Gx Go.RowKit Go.Maps
def addD (o : List ByteArray) (x : ByteArray) : List ByteArray := if o.getLast? = some x then o else o ++ [x]
def ddL (xs : List ByteArray) : List ByteArray := xs.foldl addD []
theorem zfq_ (xs : List ByteArray) (x : ByteArray) : ddL (xs ++ [x]) = addD (ddL xs) x := by simp [ddL, List.foldl_append]
theorem zrz_ (o : List ByteArray) (x : ByteArray) : (addD o x).getLast? = some x := by
 unfold addD
 split
 ·assumption
 ·simp
theorem zcv_ (xs : List ByteArray) : (ddL xs).getLast? = xs.getLast? := by
 rcases List.eq_nil_or_concat xs with rfl | ⟨l, x, rfl⟩
 ·rfl
 ·rw [List.concat_eq_append, zfq_, zrz_]; simp
def ba (l : List UInt8) : ByteArray := ⟨⟨l⟩⟩
def zoj_ (xs : List ByteArray) : List ByteArray := ((xs.map bl).mergeSort leB).map ba
theorem zSn_ (xs : List ByteArray) : srt xs = (zoj_ xs).map encS := by
 simp only [srt, zoj_, List.map_map]; rfl
theorem zhy_ (xs : List ByteArray) : (zoj_ xs).Perm xs := by
 unfold zoj_
 have := (List.mergeSort_perm (xs.map bl) leB).map ba
 rw [List.map_map] at this
 have e : (ba ∘ bl) = id := by funext x; rfl
 rw [e, List.map_id] at this
 exact this
theorem zGi_ (xs : List ByteArray) : (zoj_ xs).length = xs.length := (zhy_ xs).length_eq
section
variable {k base tb : Nat} {h : AHeap} {sl : Nat → Slc} {F : Nat → List It} {s t : Slc} {xs ys : List It}
theorem zyv_ (hk : 300 ≤ k) (D : za_) (T : Tab base h tb sl F) (hN : zw_ F 256 ≤ 1000000000) : Gx.Wp (zAd_ k D (some ⟨tb, 0, none⟩) h) fun z => z.1 = (zw_ F 256 : Int) ∧ z.2 = h := by
 simp only [zAd_]
 refine Gx.Wp.jn fun j3 h3 => .bnd rfl (.bnd (zZC_ T) (.bnd (zku_ sl) ?_))
 unfold zUh_
 obtain ⟨bot, eb⟩ := zq_ (fun _ _ _ _ => none) (zyc_ k D j3) (show 256 + 1 ≤ k by omega)
 rw [eb]
 have loop : ∀ (d i : Nat), i + d = 256 → Gx.Wp (zi_ bot (d + 1) (zyc_ k D j3) (zw_ F i : Int) (tabC sl) (i : Int) h) fun z => z.1 = (zw_ F 256 : Int) ∧ z.2 = h := fun d => by
  induction d with
  | zero =>
   intro i hd
   obtain rfl : i = 256 := by omega
   rw [zg_]; simp only [zyc_]
   refine .ifn (by decide) ?_
   rw [h3]
   exact .of ⟨rfl, rfl⟩
  | succ d ih =>
   intro i hd
   rw [zg_]; simp only [zyc_]
   have S := T.slot i (by omega)
   have hc := zcj_ F (show i + 1 ≤ 256 by omega)
   have hs := zwd_ F i
   refine .ifp (by simp; omega) (.ifp (by omega) (.bnd (a := .slice (sl i).a (sl i).len (sl i).cap) ?_ (.bnd rfl (.bnd (zku_ sl) ?_))))
   ·rw [Int.toNat_natCast, Nat.mul_one]; exact zCd_ _ (by omega)
   ·have ew : IntKind.wrap .i64 ((zw_ F i : Int) + ((sl i).len : Int)) = (zw_ F (i + 1) : Int) := by
     rw [Gx.w64 _ (by rw [S.len]; omega), hs, S.len]; omega
    dsimp only
    rw [ew, Gx.w1 (by omega)]
    exact ih (i + 1) (by omega)
 exact loop 256 0 (by omega)
end
section
variable {k base tb : Nat} {h : AHeap} {sl : Nat → Slc} {F : Nat → List It} {s t : Slc} {xs ys : List ByteArray}
def WR (w : Nat) (h : AHeap) (s : Slc) : Prop := (s.len ≠ 0 → s.a ≠ none) ∧ ∀ a, s.a = some a → ∃ c e, h.get a.block = some (.cells c e true 0) ∧ a.off + s.len * w ≤ c.length
theorem WR.ofA {base : Nat} {h : AHeap} {s : Slc} {xs : List ByteArray} (A : Gx.Acc encS 9 base h s xs) : WR 1 h s := by
 rcases A.st with ⟨rfl, rfl⟩ | ⟨b, g⟩
 ·exact ⟨fun e => absurd rfl e, fun a ha => by cases ha⟩
 ·have gb : h.get b = some (.cells (xs.map encS) 9 true 0) := g.blk
  obtain ⟨rfl, -, -⟩ := g
  exact ⟨fun _ => by simp, fun a ha => by cases ha; exact ⟨_, _, gb, by simp⟩⟩
theorem zwv_ (l : List ByteArray) : zI_ (l.map encS) = true := by
 induction l with
 | nil => rfl
 | cons x l ih => exact ih
theorem zxB_ (A : Gx.Acc encS 9 base h s xs) (hb : xs.length ≤ 1000000000) : ∃ h', zLt_ s h = some h' ∧ Gx.Acc encS 9 base h' s (zoj_ xs) ∧ Chg (ofS s) h h' := by
 rcases A.st with ⟨rfl, rfl⟩ | ⟨b, g⟩
 ·exact ⟨h, rfl, ⟨.inl ⟨rfl, by simp [zoj_]⟩, fun a ha => by cases ha⟩, .refl _ _⟩
 ·have hlt := A.lt ⟨b, 0, some 2⟩ (by rw [g.s])
  have gb : h.get b = some (.cells (xs.map encS) 9 true 0) := g.blk
  have hsl : (srt xs).length = xs.length := by rw [zSn_, List.length_map, zGi_]
  have hxl : 0 < xs.length := List.length_pos_iff.2 g.ne
  have hne : srt xs ≠ [] := fun e => by rw [e] at hsl; simp at hsl; omega
  have e1 : h.rdL b 0 xs.length = some (xs.map encS) := by
   rw [zkf_ gb (by simp), List.drop_zero, List.take_of_length_le (by simp)]
  have e2 := zAi_ (o := 0) (vs := srt xs) gb (by rw [hsl]; simp) (by rw [zSn_]; exact zwv_ _) hne
  have e3 : zx_ (xs.map encS) 0 (srt xs) = (zoj_ xs).map encS := by
   unfold zx_
   rw [List.take_zero, List.nil_append, List.drop_of_length_le (by rw [hsl]; simp), List.append_nil, zSn_]
  rw [e3] at e2
  have es : zLt_ s h = some (h.set b (.cells ((zoj_ xs).map encS) 9 true 0)) := by
   rw [g.s]
   unfold zLt_ sortA
   have hz : Nat.beq xs.length 0 = false := by
    cases c : Nat.beq xs.length 0 with
    | false => rfl
    | true => have := Nat.eq_of_beq_eq_true c; omega
   simp only [hz, cond_false]
   rw [e1]
   show ((zQi_ (xs.map encS)).bind fun xs => _) = _
   rw [show xs.map encS = xs.map Value.string from rfl, zmy_]
   show (if xs.length < 4611686018427387904 then h.wrL b 0 (srt xs) else none) = _
   rw [if_pos (by omega)]; exact e2
  refine ⟨_, es, ⟨.inr ⟨b, by rw [g.s, zGi_], by rw [zmb_]; rfl, fun e => ?_⟩, fun a ha => ?_⟩, Chg.set (.inr ⟨⟨b, 0, some 2⟩, by rw [g.s], rfl⟩)⟩
  ·have := zGi_ xs; rw [e] at this; simp at this; omega
  ·have := A.lt a ha; exact ⟨by simpa using this.1, this.2⟩
theorem zkr_ {H : AHeap} {b o i : Nat} {cs : List ByteArray} {x : ByteArray} (g : H.get b = some (.cells (cs.map encS) 9 true 0)) (hx : cs[o + i]? = some x) : ldS ⟨b, o + i, none⟩ H = some x := by
 simp [ldS, AHeap.rd1, g, hx, encS, decS]
theorem zfu_ (D : za_) (A : Gx.Acc encS 9 base h s xs) (hb : xs.length ≤ 1000000000) (hk : xs.length + 10 ≤ k) :
  Gx.Wp (zUb_ k D s h) fun z => Row encS z.2 z.1 (ddL xs) ∧ (∀ a, z.1.a = some a → base ≤ a.block ∧ a.block < z.2.next) ∧ WR 1 z.2 z.1 ∧ Chg (ofS s) h z.2 := by
 simp only [zUb_]
 have R0 := A.row
 by_cases c2 : xs.length < 2
 ·refine .ifp (by rw [show s.len = xs.length from R0.1]; simp; omega) (.of ⟨?_, fun a ha => ⟨(A.lt a ha).2, (A.lt a ha).1⟩, WR.ofA A, .refl _ _⟩)
  have : ddL xs = xs := by
   match xs, c2 with
   | [], _ => rfl
   | [x], _ => rfl
  rw [this]; exact R0
 refine .ifn (by rw [show s.len = xs.length from R0.1]; simp; omega) (Gx.Wp.jn fun j3 h3 => ?_)
 rcases A.st with ⟨rfl, rfl⟩ | ⟨b, g⟩
 ·simp at c2
 have hlt := A.lt ⟨b, 0, some 2⟩ (by rw [g.s])
 have gb : h.get b = some (.cells (xs.map encS) 9 true 0) := g.blk
 have WR0 := WR.ofA A
 obtain ⟨rfl, -, -⟩ := g
 obtain ⟨n, hn⟩ : ∃ n, n = xs.length := ⟨_, rfl⟩
 rw [← hn]
 rw [← hn] at R0 hb hk c2 WR0
 have hix : ∀ i : Nat, i < n → Gx.idxL 1 ⟨some ⟨b, 0, some 2⟩, n, n⟩ (i : Int) = some ⟨b, 0 + i, none⟩ := fun i hi => by
  simp only [idxL]
  rw [if_pos (by omega)]
  simp
 unfold zQd_
 obtain ⟨bot, eb⟩ := zq_ (fun _ _ _ => none) (zbb_ k D j3) (show n - 1 + 1 ≤ k by omega)
 rw [eb]
 have loop : ∀ (d i : Nat), 1 ≤ i → i + d = n → ddL (xs.take i) = xs.take i → Gx.Wp (zi_ bot (d + 1) (zbb_ k D j3) ⟨some ⟨b, 0, some 2⟩, n, n⟩ (i : Int) h) fun z => Row encS z.2 z.1 (ddL xs) ∧ (∀ a, z.1.a = some a → base ≤ a.block ∧ a.block < z.2.next) ∧ WR 1 z.2 z.1 ∧ Chg (ofS ⟨some ⟨b, 0, some 2⟩, n, n⟩) h z.2 := fun d => by
  induction d with
  | zero =>
   intro i h1 hd hdd
   rw [zg_]; simp only [zbb_]
   refine .ifn (by simp; omega) ?_
   rw [h3]
   rw [List.take_of_length_le (by omega)] at hdd
   refine .of ⟨by rw [hdd]; exact R0, fun a ha => by cases ha; exact ⟨hlt.2, hlt.1⟩, WR0, .refl _ _⟩
  | succ d ih =>
   intro i h1 hd hdd
   rw [zg_]; simp only [zbb_]
   obtain ⟨x, hx⟩ := zv_ (l := xs) (i := i) (by omega)
   obtain ⟨y, hy⟩ := zv_ (l := xs) (i := i - 1) (by omega)
   have e1 : IntKind.wrap .i64 ((i : Int) - 1) = ((i - 1 : Nat) : Int) := by rw [Gx.w64 _ (by omega)]; omega
   rw [e1]
   have hlast : (ddL (xs.take i)).getLast? = some y := by
    rw [zcv_, List.getLast?_eq_getElem?, List.getElem?_take]
    rw [List.length_take, if_pos (by omega), ← hy]; congr 1; omega
   have hsn : ddL (xs.take (i + 1)) = addD (ddL (xs.take i)) x := by rw [← zfq_, List.take_add_one, hx]; rfl
   refine .ifp (by simp; omega) (Gx.Wp.jn fun j11 h11 => .bnd (hix i (by omega)) (.bnd (zkr_ gb (by rw [Nat.zero_add]; exact hx)) (.bnd (hix (i - 1) (by omega)) (.bnd (zkr_ gb (by rw [Nat.zero_add]; exact hy)) ?_))))
   rw [zEj_]
   by_cases c : x = y
   rotate_left
   ·refine .ifn (by simp [c]) ?_
    rw [h11]
    dsimp only
    rw [Gx.w1 (by omega)]
    refine ih (i + 1) (by omega) (by omega) ?_
    rw [hsn, hdd]
    unfold addD
    rw [hdd] at hlast
    rw [if_neg (by rw [hlast]; intro e; exact c (Option.some.inj e).symm), List.take_add_one, hx]; rfl
   ·refine .ifp (by simp [c]) ?_
    have hd0 : ddL (xs.take (i + 1)) = xs.take i := by
     rw [hsn]
     unfold addD
     rw [if_pos (by rw [hlast, c]), hdd]
    refine .bnd (zch_ (by rfl) (by omega) (Nat.le_refl _) (by omega)) (Gx.Wp.jn fun j20 h20 => ?_)
    have hix2 : ∀ j : Nat, j < n - i → Gx.idxL 1 ⟨some ⟨b, 0 + i * 1, some 2⟩, n - i, n - i⟩ (j : Int) = some ⟨b, i + j, none⟩ := fun j hj => by
     simp only [idxL]
     rw [if_pos (by omega)]
     simp
    unfold zPd_
    obtain ⟨bot2, eb2⟩ := zq_ (fun _ _ _ _ _ => none) (zcb_ k D j20) (show (n - i - 1) + 1 ≤ k by omega)
    rw [eb2]
    have fin : ∀ (d2 j : Nat) (H : AHeap) (cs : List ByteArray) (kv : Nat), 1 ≤ j → j + d2 = n - i → Chg (· = b) h H → H.get b = some (.cells (cs.map encS) 9 true 0) → cs.length = n → kv = (ddL (xs.take (i + j))).length → kv ≤ i + j - 1 → cs.take kv = ddL (xs.take (i + j)) → cs.drop (i + j - 1) = xs.drop (i + j - 1) →
      Gx.Wp (zi_ bot2 (d2 + 1) (zcb_ k D j20) ⟨some ⟨b, 0, some 2⟩, n, n⟩ (kv : Int) ⟨some ⟨b, 0 + i * 1, some 2⟩, n - i, n - i⟩ (j : Int) H) fun z => Row encS z.2 z.1 (ddL xs) ∧ (∀ a, z.1.a = some a → base ≤ a.block ∧ a.block < z.2.next) ∧ WR 1 z.2 z.1 ∧ Chg (ofS ⟨some ⟨b, 0, some 2⟩, n, n⟩) h z.2 := fun d2 => by
     induction d2 with
     | zero =>
      intro j H cs kv hj hjd cH gH hcl hkv hkl htk hdr
      rw [zg_]; simp only [zcb_]
      refine .ifn (by simp; omega) ?_
      rw [h20]
      have hall : xs.take (i + j) = xs := List.take_of_length_le (by omega)
      rw [hall] at hkv htk
      have hkn : kv < n := by omega
      refine .bnd (zch_ (by rfl) (by omega) (Nat.le_refl _) hkn) ?_
      have hzl : (zu_ (n - kv) [Value.string ⟨#[]⟩]).length = n - kv := by simp [zu_]
      have hz1 : zI_ (zu_ (n - kv) [Value.string ⟨#[]⟩]) = true := by
       have : zu_ (n - kv) [Value.string ⟨#[]⟩] = (List.replicate (n - kv) (⟨#[]⟩ : ByteArray)).map encS := by rw [List.map_replicate]; rfl
       rw [this]; exact zwv_ _
      have ec := zAi_ (o := 0 + kv * 1) (vs := zu_ (n - kv) [Value.string ⟨#[]⟩]) gH (by rw [hzl, List.length_map]; omega) hz1 (fun e => by rw [e] at hzl; simp at hzl; omega)
      refine .bnd ec (.bnd (zfp_ (by rfl) (by omega)) (.of ⟨⟨hkv, fun i2 x2 hx2 => ?_⟩, fun a ha => ?_, ⟨fun _ => by simp, fun a ha => ?_⟩, ?_⟩))
      ·refine ⟨_, _, _, _, _, rfl, ?_, zmb_ _ _ _, ?_⟩
       ·have := cH.nx; have := hlt.1; simp only [AHeap.next_set]; exact Nat.lt_of_lt_of_le hlt.1 cH.nx
       ·unfold zx_
        have hi2 : i2 < kv := by rw [hkv]; exact (List.getElem?_eq_some_iff.1 hx2).1
        show (List.take (0 + kv * 1) (cs.map encS) ++ _ ++ _)[0 + i2]? = _
        rw [List.append_assoc, List.getElem?_append_left (by simp; omega), Nat.zero_add, Nat.zero_add, Nat.mul_one, ← List.map_take, htk, List.getElem?_map, hx2]; rfl
      ·cases ha
       have := cH.nx
       exact ⟨hlt.2, by simp only [AHeap.next_set]; exact Nat.lt_of_lt_of_le hlt.1 cH.nx⟩
      ·cases ha
       refine ⟨_, _, zmb_ _ _ _, ?_⟩
       rw [zAb_ (by rw [hzl, List.length_map]; omega), List.length_map]
       show 0 + kv * 1 ≤ _
       omega
      ·refine Chg.trans (cH.wk fun y _ e => ⟨⟨b, 0, some 2⟩, rfl, e⟩) (Chg.set (.inr ⟨⟨b, 0, some 2⟩, rfl, rfl⟩))
     | succ d2 ih2 =>
      intro j H cs kv hj hjd cH gH hcl hkv hkl htk hdr
      rw [zg_]; simp only [zcb_]
      obtain ⟨u, hu⟩ := zv_ (l := xs) (i := i + j) (by omega)
      obtain ⟨v, hv⟩ := zv_ (l := xs) (i := i + j - 1) (by omega)
      have hcu : cs[i + j]? = some u := by
       have := congrArg (·[1]?) hdr
       simp only [List.getElem?_drop] at this
       rw [show i + j - 1 + 1 = i + j by omega] at this
       rw [this]; exact hu
      have hcv : cs[i + (j - 1)]? = some v := by
       have := congrArg (·[0]?) hdr
       simp only [List.getElem?_drop, Nat.add_zero] at this
       rw [show i + (j - 1) = i + j - 1 by omega, this]; exact hv
      have e2 : IntKind.wrap .i64 ((j : Int) - 1) = ((j - 1 : Nat) : Int) := by rw [Gx.w64 _ (by omega)]; omega
      rw [e2]
      have hlast2 : (ddL (xs.take (i + j))).getLast? = some v := by
       rw [zcv_, List.getLast?_eq_getElem?, List.getElem?_take]
       rw [List.length_take, if_pos (by omega), ← hv]; congr 1; omega
      have hsn2 : ddL (xs.take (i + (j + 1))) = addD (ddL (xs.take (i + j))) u := by rw [← zfq_, ← Nat.add_assoc, List.take_add_one, hu]; rfl
      refine .ifp (by simp; omega) (Gx.Wp.jn fun j35 h35 => .bnd (hix2 j (by omega)) (.bnd (zkr_ gH hcu) (.bnd (hix2 (j - 1) (by omega)) (.bnd (zkr_ gH hcv) ?_))))
      rw [zEj_]
      by_cases c3 : u = v
      ·refine .ifn (by simp [c3]) ?_
       rw [h35]
       dsimp only
       rw [Gx.w1 (by omega)]
       have e3 : ddL (xs.take (i + (j + 1))) = ddL (xs.take (i + j)) := by
        rw [hsn2]; unfold addD; rw [if_pos (by rw [hlast2, c3])]
       refine ih2 (j + 1) H cs kv (by omega) (by omega) cH gH hcl (by rw [e3]; exact hkv) (by omega) (by rw [e3]; exact htk) ?_
       have := congrArg (List.drop 1) hdr
       rw [List.drop_drop, List.drop_drop] at this
       rw [show i + (j + 1) - 1 = i + j - 1 + 1 by omega]; exact this
      ·refine .ifp (by simp [c3]) (.bnd (hix2 j (by omega)) (.bnd (zkr_ gH hcu) (.bnd (hix kv (by omega)) ?_)))
       have es : st1 ⟨b, 0 + kv, none⟩ (.string u) H = some (H.set b (.cells ((cs.map encS).set (0 + kv) (.string u)) 9 true 0)) := zpc_ gH (by rw [List.length_map]; omega) rfl
       refine .bnd es ?_
       rw [h35]
       dsimp only
       rw [Gx.w1 (by omega), Gx.w1 (by omega)]
       have e3 : ddL (xs.take (i + (j + 1))) = ddL (xs.take (i + j)) ++ [u] := by
        rw [hsn2]; unfold addD
        rw [if_neg (by rw [hlast2]; intro e; exact c3 (Option.some.inj e).symm)]
       refine ih2 (j + 1) _ (cs.set kv u) (kv + 1) (by omega) (by omega) (Chg.trans cH (Chg.set (.inr rfl))) ?_ (by rw [List.length_set]; exact hcl) (by rw [e3, List.length_append, ← hkv]; rfl) (by omega) ?_ ?_
       ·rw [zmb_, List.map_set, Nat.zero_add]; rfl
       ·rw [e3, ← htk, List.take_add_one, List.getElem?_set_self (by omega), List.take_set_of_le (Nat.le_refl _)]; rfl
       ·rw [List.drop_set_of_lt (by omega)]
        have := congrArg (List.drop 1) hdr
        rw [List.drop_drop, List.drop_drop] at this
        rw [show i + (j + 1) - 1 = i + j - 1 + 1 by omega]; exact this
    have := fin (n - i - 1) 1 h xs i (Nat.le_refl _) (by omega) (.refl _ _) gb hn.symm (by rw [hd0, List.length_take]; omega) (by omega) (by rw [hd0]) rfl
    exact this
 exact loop (n - 1) 1 (Nat.le_refl _) (by omega) (by
  cases hx : xs with
  | nil => rfl
  | cons x l => rfl)
end
section
variable {k base tb : Nat} {h : AHeap} {sl : Nat → Slc} {F : Nat → List It} {s t : Slc} {xs ys : List ByteArray}
end
theorem znB_ {F : Nat → List It} {x y : It} {i : Nat} : y ∈ addF F x i ↔ (y = x ∧ i = idx x.1) ∨ y ∈ F i := by
 unfold addF upd
 split
 ·rename_i e
  subst e
  rw [zdD_]
  constructor
  ·rintro (rfl | h)
   ·exact .inl ⟨rfl, rfl⟩
   ·exact .inr h
  ·rintro (⟨rfl, _⟩ | h)
   ·exact .inl rfl
   ·exact .inr h
 ·rename_i e
  constructor
  ·exact .inr
  ·rintro (⟨_, e2⟩ | h)
   ·exact absurd e2 e
   ·exact h
theorem zCj_ : ∀ {xs : List It} {F : Nat → List It} {y : It} {i : Nat}, y ∈ addL F xs i ↔ (y ∈ xs ∧ i = idx y.1) ∨ y ∈ F i
 | [], F, y, i => by simp [addL]
 | x :: xs, F, y, i => by
  show y ∈ addL (addF F x) xs i ↔ _
  rw [zCj_, znB_, List.mem_cons]
  constructor
  ·rintro (⟨h, e⟩ | ⟨rfl, e⟩ | h)
   ·exact .inl ⟨.inr h, e⟩
   ·exact .inl ⟨.inl rfl, e⟩
   ·exact .inr h
  ·rintro (⟨rfl | h, e⟩ | h)
   ·exact .inr (.inl ⟨rfl, e⟩)
   ·exact .inl ⟨h, e⟩
   ·exact .inr (.inr h)
theorem zNA_ (F : Nat → List It) (xs ys : List It) : addL F (xs ++ ys) = addL (addL F xs) ys := by unfold addL; rw [List.foldl_append]
def InT (F : Nat → List It) : Prop := ∀ i x, i < 256 → x ∈ F i → idx x.1 = i
theorem zAC_ {xs : List It} {F : Nat → List It} (h : InT F) : InT (addL F xs) := fun i x hi hx => by
 rcases zCj_.1 hx with ⟨_, e⟩ | g
 ·exact e.symm
 ·exact h i x hi g
theorem zlB_ {a b : ByteArray} (h : idx a < idx b) : bl a < bl b := by
 unfold idx at h
 cases ha : bl a with
 | nil =>
  cases hb : bl b with
  | nil => rw [ha, hb] at h; simp at h
  | cons y ys => exact List.nil_lt_cons _ _
 | cons x xs =>
  cases hb : bl b with
  | nil => rw [ha, hb] at h; simp at h
  | cons y ys =>
   rw [ha, hb] at h
   exact List.cons_lt_cons_iff.2 (.inl h)
theorem zCA_ {x y : It} (h : idx x.1 < idx y.1) : zQ_ x y = true := by
 rw [zLi_]
 exact .inl (zlB_ h)
theorem zGo_ {F : Nat → List It} (hr : zgc_ F) (hin : InT F) : ∀ n, n ≤ 256 → zWb_ (zRb_ F n)
 | 0, _ => List.Pairwise.nil
 | n + 1, h => by
  rw [zWh_]
  unfold zWb_
  rw [List.pairwise_append]
  refine ⟨zGo_ hr hin n (by omega), hr n (by omega), fun a ha b hb => zCA_ ?_⟩
  unfold zRb_ at ha
  obtain ⟨i, hi, ha⟩ := List.mem_flatMap.1 ha
  have hi' := List.mem_range.1 hi
  rw [hin i a (by omega) ha, hin n b (by omega) hb]
  exact hi'
theorem zSx_ {F : Nat → List It} (hr : zgc_ F) (hin : InT F) : zWb_ (allF F) := zGo_ hr hin 256 (Nat.le_refl _)
theorem zQq_ {F G : Nat → List It} : ∀ n, (∀ i, i < n → F i = G i) → zRb_ F n = zRb_ G n
 | 0, _ => rfl
 | n + 1, h => by rw [zWh_, zWh_, zQq_ n fun i hi => h i (by omega), h n (by omega)]
theorem zaA_ {F G : Nat → List It} (n : Nat) (h : ∀ i, i < n → F i = G i) : zw_ F n = zw_ G n := by rw [← zVd_, ← zVd_, zQq_ n h]
theorem zWw_ {F G : Nat → List It} (h1 : zgc_ F) (h2 : zgc_ G) (h : ∀ i x, i < 256 → (x ∈ F i ↔ x ∈ G i)) : ∀ i, i < 256 → F i = G i := fun i hi => zmz_ (h1 i hi) (h2 i hi) fun x => h i x hi
theorem zOz_ {xs : List It} (hr : zWb_ xs) {z : It} (hz : z ∈ xs) : ∃ p, getL xs z.1 = (p, true) ∧ zQ_ z (z.1, p) = false := by
 have hzm : z ∈ xs.filter fun y => decide (y.1 = z.1) := List.mem_filter.2 ⟨hz, decide_eq_true rfl⟩
 unfold getL zGe_
 cases e : xs.filter (fun y => decide (y.1 = z.1)) with
 | nil => rw [e] at hzm; cases hzm
 | cons y ys =>
  refine ⟨y.2, rfl, ?_⟩
  have hy : y ∈ xs.filter fun y => decide (y.1 = z.1) := by rw [e]; exact List.mem_cons_self ..
  have hid : y.1 = z.1 := by have := (List.mem_filter.1 hy).2; simpa using this
  have ey : (z.1, y.2) = y := by rw [← hid]
  rw [ey]
  have hrf : zWb_ (xs.filter fun y => decide (y.1 = z.1)) := zsv_ hr _
  rw [e] at hrf hzm
  unfold zWb_ at hrf
  rw [List.pairwise_cons] at hrf
  rcases List.mem_cons.1 hzm with rfl | h
  ·exact zuh_ _
  ·exact zWp_ (hrf.1 z h)
theorem zRC_ {F : Nat → List It} (h : ∀ i, i < 256 → F i = []) : zw_ F 256 = 0 := by
 rw [zaA_ (G := fun _ => []) 256 h]
 have : ∀ n, zw_ (fun _ => []) n = 0 := fun n => by
  induction n with
  | zero => rfl
  | succ n ih => rw [zwd_, ih]; rfl
 exact this 256
section
variable {k base b0 tb tf : Nat} {h : AHeap} {sl : Nat → Slc} {F : Nat → List It} {s : Slc} {xs : List It}
end
structure LT (base : Nat) (h : AHeap) (rb : Nat) (s : Slc) (xs : List It) : Prop where
 blk : h.get rb = some (.cells [.slice s.a s.len s.cap] 77 true 0)
 lt : rb < h.next
 ge : base ≤ rb
 acc : AccW 6 itC 57 base h s xs
 ne : ∀ a, s.a = some a → a.block ≠ rb
section
variable {k base rb : Nat} {h h' : AHeap} {s : Slc} {xs ys : List It}
end
section
variable {k base rb : Nat} {h h' : AHeap} {s : Slc} {xs ys : List It}
end
section
variable {k base tb rb : Nat} {h h' : AHeap} {sl : Nat → Slc} {F : Nat → List It} {s t : Slc} {xs ys : List It}
end
section
variable {α : Type} {w : Nat} {enc : α → List Value} {e : TypeId} {base bytes : Nat} {H : AHeap} {s o : Slc} {xs os : List α}
end
section
variable {k base rb : Nat} {h h' : AHeap} {s : Slc} {xs : List It}
end
section
variable {k base rb : Nat} {h h' : AHeap} {s : Slc} {xs : List It}
end
section
variable {k base rb tb : Nat} {h h' : AHeap} {s t : Slc} {sl : Nat → Slc} {F : Nat → List It}
end
section
variable {k base b2 rb tb : Nat} {h : AHeap} {s : Slc} {sl : Nat → Slc} {F : Nat → List It}
end
theorem RowW.rdAll {α : Type} {w : Nat} {enc : α → List Value} {h : AHeap} {s : Slc} {xs : List α} (R : RowW w enc h s xs) (hw : ∀ x, (enc x).length = w) (hw0 : 0 < w) : Gx.rdS w s h = some (xs.flatMap enc) := by
 unfold Gx.rdS
 rw [R.len]
 by_cases c : xs = []
 ·subst c
  simp only [List.length_nil, Nat.zero_mul, List.flatMap_nil]
  cases s.a <;> rfl
 ·have hp : 0 < xs.length := List.length_pos_iff.2 c
  obtain ⟨x0, hx0⟩ := zv_ (l := xs) (i := 0) hp
  obtain ⟨a, cc, e, r, fz, h1, h2, h3, _⟩ := R.at' 0 x0 hx0
  have all : ∀ (i : Nat) (x : α), xs[i]? = some x → ∀ (j : Nat) (v : Value), (enc x)[j]? = some v → cc[a.off + i * w + j]? = some v := fun i x hx j v hj => by
   obtain ⟨a', cc', e', r', fz', g1, g2, g3, g4⟩ := R.at' i x hx
   rw [h1] at g1; cases g1
   rw [h3] at g3; cases g3
   exact g4 j v hj
  have hlen : a.off + xs.length * w ≤ cc.length := by
   obtain ⟨x, hx⟩ := zv_ (l := xs) (i := xs.length - 1) (by omega)
   obtain ⟨v, hv⟩ := zv_ (l := enc x) (i := w - 1) (by rw [hw]; omega)
   have := (List.getElem?_eq_some_iff.1 (all _ x hx _ v hv)).1
   have e2 : (xs.length - 1) * w + w = xs.length * w := by rw [← Nat.succ_mul]; congr 1; omega
   omega
  rw [h1]
  show h.rdL a.block a.off (xs.length * w) = _
  rw [zkf_ h3 hlen]
  congr 1
  apply List.ext_getElem?
  intro m
  rw [List.getElem?_take]
  by_cases hm : m < xs.length * w
  ·rw [if_pos hm, List.getElem?_drop]
   have hd : m / w < xs.length := (Nat.div_lt_iff_lt_mul hw0).2 hm
   have hmod := Nat.mod_lt m hw0
   have em : m / w * w + m % w = m := by rw [Nat.mul_comm]; exact Nat.div_add_mod m w
   obtain ⟨x, hx⟩ := zv_ (l := xs) (i := m / w) hd
   obtain ⟨v, hv⟩ := zv_ (l := enc x) (i := m % w) (by rw [hw]; exact hmod)
   have g1 := all _ x hx _ v hv
   have g2 := zlk_ hw hx _ v hv
   rw [em] at g2
   rw [Nat.add_assoc, em] at g1
   rw [g1, g2]
  ·rw [if_neg hm, List.getElem?_eq_none (by rw [zQf_ hw]; omega)]
end Gg
namespace Gg
open Go Gx
abbrev Sp := List ByteArray × List ByteArray × List It
open Classical in
noncomputable def zFi_ (s : Sp) (x : It) : Sp := if tooB s.2.1 (s.2.2 ++ [x]) then (s.1 ++ [bA (zW_ s.2.1 s.2.2)], [], [x]) else (s.1, s.2.1, s.2.2 ++ [x])
noncomputable def zLb_ (sup : List ByteArray) (its : List It) : Sp := its.foldl zFi_ ([], sup, [])
theorem zHr_ (sup : List ByteArray) (l : List It) (x : It) : zLb_ sup (l ++ [x]) = zFi_ (zLb_ sup l) x := by simp [zLb_]
open Classical in
noncomputable def zmg_ (sup : List ByteArray) (its : List It) : List ByteArray × Int :=
 if chkF sup its = 0 then if tooB sup [] then ([], 2) else ((zLb_ sup its).1 ++ [bA (zW_ (zLb_ sup its).2.1 (zLb_ sup its).2.2)], 0) else ([], chkF sup its)
def SpOk (s : Sp) (i : Nat) : Prop := ¬ tooB s.2.1 s.2.2 ∧ zCi_ s.2.1 s.2.2 ∧ s.1.length ≤ i ∧ s.2.2.length ≤ i
theorem zkz_ (x : It) (h : okI x) : ¬ tooB [] [x] := by
 have a := zJb_ 1 0 (by decide)
 have b := zJb_ 1 1 (by decide)
 have e := zDj_ (its := [x]) (fun y hy => by rw [List.mem_singleton.1 hy]; exact h)
 have e2 : (zW_ [] [x]).length ≤ 65536 := by
  simp only [zW_, List.length_append, zSd_, List.length_cons, List.length_nil, supB, List.flatMap_nil, Nat.zero_add] at e ⊢
  omega
 rintro (q | q | q)
 ·simp at q
 ·simp at q
 ·omega
theorem zpz_ {s : Sp} {i : Nat} {x : It} (h : SpOk s i) (hx : okI x) : SpOk (zFi_ s x) (i + 1) := by
 obtain ⟨h1, h2, h3, h4⟩ := h
 unfold zFi_
 by_cases c : tooB s.2.1 (s.2.2 ++ [x])
 ·rw [if_pos c]
  exact ⟨zkz_ x hx, ⟨fun y hy => (List.not_mem_nil hy).elim, fun y hy => by rw [List.mem_singleton.1 hy]; exact hx⟩, by simp; omega, by simp⟩
 ·rw [if_neg c]
  refine ⟨c, ⟨h2.1, fun y hy => ?_⟩, by simp; omega, by simp; omega⟩
  rcases List.mem_append.1 hy with g | g
  ·exact h2.2 y g
  ·rw [List.mem_singleton.1 g]; exact hx
theorem zIB_ {k : Nat} {D : za_} {base : Nat} {H h42 : AHeap} {q : Slc} {ys : List It} (S : RowW 6 itC H q ys) (kk : zc_ H h42) (hl : ys.length ≤ 100000) (hb : base ≤ h42.next)
  (cl : (q.len ≠ 0 → q.a ≠ none) ∧ (∀ a, q.a = some a → spOk a.spot 6 = true) ∧ q.len ≤ q.cap) (x : It) :
  ∃ c s' h43, (∀ h, zkb_ k D q h = some (c, h)) ∧ zl_ 6 64 57 h42 c (itC x) 1 = some (s', h43) ∧ AccW 6 itC 57 base h43 s' (ys ++ [x]) ∧ zc_ h42 h43 ∧ s'.a = some ⟨h42.next, 0, some 7⟩ := by
 obtain ⟨c1, c2, c3⟩ := cl
 have hlen := S.len
 have R := RowW.rdAll (S.keeps kk) zG_ (by decide)
 obtain ⟨qa, ql, qc⟩ := q
 simp only at c1 c2 c3 hlen R
 cases qa with
 | none =>
  have h0 : ql = 0 := by
   by_cases z : ql = 0
   ·exact z
   ·exact absurd rfl (c1 z)
  subst h0
  obtain rfl := List.length_eq_zero_iff.1 hlen.symm
  refine ⟨⟨none, 0, 0⟩, ⟨some ⟨h42.next, 0, some 7⟩, 1, 1⟩, h42.new (.cells (itC x) 57 true 0), fun h => ?_, ?_, ⟨.inr ⟨h42.next, rfl, by simp, by simp⟩, ?_⟩, zc_.new _ _, rfl⟩
  ·simp only [zkb_, Gx.subL, Option.getD_some, Option.getD_none]
   rw [if_pos (by omega)]; rfl
  ·simp only [zl_]
   rw [if_neg (by omega), if_pos (by omega)]
  ·intro a ha; cases ha; simp; omega
 | some a =>
  have sp := c2 a rfl
  refine ⟨⟨some ⟨a.block, a.off, some 0⟩, ql, ql⟩, ⟨some ⟨h42.next, 0, some 7⟩, ql + 1, ql + 1⟩, h42.new (.cells (ys.flatMap itC ++ itC x) 57 true 0), fun h => ?_, ?_, ⟨.inr ⟨h42.next, by simp [hlen], by simp, by simp⟩, ?_⟩, zc_.new _ _, rfl⟩
  ·simp only [zkb_, Gx.subL, Option.getD_some, Option.getD_none]
   rw [if_pos (by omega), if_pos sp]
   simp
  ·simp only [zl_]
   have R' : h42.rdL a.block a.off (ql * 6) = some (ys.flatMap itC) := R
   rw [if_neg (by omega), if_pos (by omega), R']
   rfl
  ·intro a ha; cases ha; simp; omega
end Gg
namespace Gg
open Go Gx Go.RowKit Go.Maps
abbrev Tr := Int × Int × Int × Unit
abbrev T3 : DT := .pair (.int .i64) (.pair (.int .i64) (.pair (.int .i64) .unit))
structure Two (h H : AHeap) (ta tb : Nat) (sla slb : Nat → Slc) (Fa Fb : Nat → List It) : Prop where
 A : Tab h.next H ta sla Fa
 B : Tab h.next H tb slb Fb
 ap : ∀ y, TOwn ta sla y → ¬ TOwn tb slb y
 kp : zc_ h H
section
variable {k ta tb : Nat} {h H H' : AHeap} {sla slb sl' : Nat → Slc} {Fa Fb F' : Nat → List It} {s : Slc} {l : List Tr}
theorem zqD_ {H : AHeap} {b : Nat} (x : It) (g : H.get b = some (.cells (itC x) 57 true 0)) (hb : b < H.next) : RowW 6 itC H ⟨some ⟨b, 0, some 0⟩, 1, 1⟩ [x] := by
 have := zgq_ (w := 6) (enc := itC) zG_ (n := 1) (cap := 1) (sp := some 0) (ys := [x]) (by simpa using g) hb (Nat.le_refl _)
 exact this
end
end Gg
namespace Gg
open Go Gx
def zvu_ (q : Slc) : Prop := (q.len ≠ 0 → q.a ≠ none) ∧ (∀ a, q.a = some a → spOk a.spot 6 = true) ∧ q.len ≤ q.cap
structure PartS (base : Nat) (H : AHeap) (el pb : Nat) (ps pi o : Slc) (s : Sp) : Prop where
 blk : H.get pb = some (.cells [.slice ps.a ps.len ps.cap, .slice pi.a pi.len pi.cap] el true 0)
 R : Row encS H ps s.2.1
 S : RowW 6 itC H pi s.2.2
 A : Acc encS 9 base H o s.1
 cl : zvu_ pi
 lt : pb < H.next
 ge : base ≤ pb
 pp : ∀ a, ps.a = some a → a.block < base
 pq : ∀ a, pi.a = some a → base ≤ a.block ∧ a.block ≠ pb ∧ a.block < H.next
 po : ∀ a, o.a = some a → a.block ≠ pb
 ap : ∀ a c, pi.a = some a → o.a = some c → a.block ≠ c.block
section
variable {base pb el : Nat} {H H' : AHeap} {ps pi o : Slc} {s : Sp}
theorem PartS.keeps (P : PartS base H el pb ps pi o s) (k : zc_ H H') : PartS base H' el pb ps pi o s :=
 ⟨k.got P.lt P.blk, P.R.keeps k, P.S.keeps k, P.A.keeps k, P.cl, Nat.lt_of_lt_of_le P.lt k.nx, P.ge, P.pp, fun a ha => ⟨(P.pq a ha).1, (P.pq a ha).2.1, Nat.lt_of_lt_of_le (P.pq a ha).2.2 k.nx⟩, P.po, P.ap⟩
theorem PartS.load (P : PartS base H el pb ps pi o s) : ldA 2 ⟨pb, 0, none⟩ H = some [.slice ps.a ps.len ps.cap, .slice pi.a pi.len pi.cap] := zA_ P.blk rfl
end
section
variable {k : Nat} {h : AHeap} {fs fi : Slc} {sup : List ByteArray} {its : List It}
theorem zdB_ {sup : List ByteArray} {its : List It} {x : It} (h : ¬ tooB sup its) (hl : its.length ≤ 1000) : tooB sup (its ++ [x]) ↔ 65536 < (zW_ sup (its ++ [x])).length := by
 constructor
 ·rintro (q | q | q)
  ·exact absurd (.inl q) h
  ·simp at q; omega
  ·exact q
 ·exact fun q => .inr (.inr q)
theorem zCx_ (hk : 20000 ≤ k) (R : Row encS h fs sup) (S : RowW 6 itC h fi its) (hl : sup.length + its.length + 20 ≤ k) (hb : sup.length + its.length < 9000000000000000000) (hi : its.length ≤ 1000) (bf : ∀ a, fs.a = some a → a.block < h.next) :
  Gx.Wp (zki_ k (DD k) (fs, fi) h) fun z => z.1.2 = (zmg_ sup its).2 ∧ Gx.Acc encS 9 h.next z.2 z.1.1 (zmg_ sup its).1 ∧ zc_ h z.2 := by
 simp only [zki_]
 refine Wp.newE fun h1 e1 k1 n1 g1 => ?_
 have ld : ∀ {H : AHeap}, zc_ h1 H → ldA 2 ⟨h.next, 0, none⟩ H = some [.slice fs.a fs.len fs.cap, .slice fi.a fi.len fi.cap] := fun kk => zA_ (kk.got (by omega) g1) rfl
 have l0 : ∀ {H : AHeap}, zc_ h1 H → ldL ⟨h.next, 0, none⟩ H = some fs := fun kk => zB_ (kk.got (by omega) g1) rfl
 have l1 : ∀ {H : AHeap}, zc_ h1 H → ldL ⟨h.next, 1, none⟩ H = some fi := fun kk => zB_ (kk.got (by omega) g1) rfl
 have dc : ∀ (a b : Slc), decC [.l, .l] [.slice a.a a.len a.cap, .slice b.a b.len b.cap] = some (a, b) := fun _ _ => rfl
 refine .bnd (ld (.refl _ _)) (.bnd (dc fs fi) (.call (zrr_ (by omega) (R.keeps k1) (S.keeps k1) hl hb) fun r4 ⟨q4, k4⟩ => ?_))
 by_cases c0 : chkF sup its = 0
 rotate_left
 ·have e : zmg_ sup its = ([], chkF sup its) := by unfold zmg_; rw [if_neg c0]
  rw [e]
  exact .ifp (by rw [q4]; simpa using c0) (.of ⟨by rw [q4], Acc.nil _ _ _ _, k1.trans k4⟩)
 have ok := (zdq_.1 c0).1
 have k14 : zc_ h r4.2 := k1.trans k4
 refine .ifn (by rw [q4, c0]; decide) (.bnd (l0 k4) (.call (zEk_ (DD k) (by omega) (R.keeps k14) (RowW.nil 6 itC r4.2 none 0) (its := []) ⟨ok.1, fun y hy => (List.not_mem_nil hy).elim⟩ (by simp; omega)) fun r6 ⟨q6, k6⟩ => ?_))
 have k16 : zc_ h r6.2 := k14.trans k6
 have k46 : zc_ h1 r6.2 := k4.trans k6
 by_cases c1 : tooB sup []
 ·have e : zmg_ sup its = ([], 2) := by unfold zmg_; rw [if_pos c0, if_pos c1]
  rw [e]
  have : r6.1.2 = false := by
   by_cases c2 : 4096 < sup.length ∨ 4096 < ([] : List It).length
   ·rw [if_pos c2] at q6; rw [q6]
   ·rw [if_neg c2] at q6
    rw [q6]
    refine decide_eq_false fun q => ?_
    rcases c1 with z | z | z
    ·exact c2 (.inl z)
    ·exact c2 (.inr z)
    ·omega
  exact .ifp (by rw [this]; rfl) (.of ⟨rfl, Acc.nil _ _ _ _, k16⟩)
 have c2 : ¬ (4096 < sup.length ∨ 4096 < ([] : List It).length) := fun q => q.elim (fun z => c1 (.inl z)) fun z => c1 (.inr (.inl z))
 have hsl : sup.length ≤ 4096 := Nat.le_of_not_lt fun z => c2 (.inl z)
 rw [if_neg c2] at q6
 have h6 : r6.1.2 = true := by rw [q6]; exact decide_eq_true (Nat.le_of_not_lt fun z => c1 (.inr (.inr z)))
 have e : zmg_ sup its = ((zLb_ sup its).1 ++ [bA (zW_ (zLb_ sup its).2.1 (zLb_ sup its).2.2)], 0) := by unfold zmg_; rw [if_pos c0, if_neg c1]
 rw [e]
 have n16 := k16.nx
 refine .ifn (by rw [h6]; decide) (.bnd (l0 k46) (Wp.newE fun h8 e8 k8 n8 g8 => Wp.stL g8 rfl rfl rfl (by decide) fun h9 c9 n9 g9 => Gx.Wp.jn fun j13 h13 => ?_))
 have k9 : zc_ r6.2 h9 := k8.keepsS c9 fun y hy => by subst hy; omega
 have k09 : zc_ h h9 := k16.trans k9
 refine .bnd (l1 (k46.trans k9)) ?_
 unfold zdl_
 obtain ⟨bot, eb⟩ := zq_ (fun _ _ _ _ _ _ => none) (zYd_ k (DD k) j13) (show its.length + 1 ≤ k by omega)
 rw [eb]
 have il : (fi.len : Int) = (its.length : Int) := by rw [S.len]
 have loop : ∀ (d i : Nat) (o ps pi : Slc) (H : AHeap), i + d = its.length → zc_ h H → h9.next ≤ H.next → PartS h.next H 38 r6.2.next ps pi o (zLb_ sup (its.take i)) → SpOk (zLb_ sup (its.take i)) i → Gx.Wp (zi_ bot (d + 1) (zYd_ k (DD k) j13) o (some ⟨r6.2.next, 0, none⟩) fi (fi.len : Int) (i : Int) H) fun z => z.1.2 = 0 ∧ Gx.Acc encS 9 h.next z.2 z.1.1 ((zLb_ sup its).1 ++ [bA (zW_ (zLb_ sup its).2.1 (zLb_ sup its).2.2)]) ∧ zc_ h z.2 := fun d => by
  induction d with
  | zero =>
   intro i o ps pi H hd kp hn P hO
   rw [zg_]; simp only [zYd_]
   rw [List.take_of_length_le (by omega)] at P hO
   refine .ifn (by rw [il]; simp; omega) ?_
   rw [h13]
   obtain ⟨o1, o2, o3, o4⟩ := hO
   have hs1 : (zLb_ sup its).2.1.length ≤ 4096 := Nat.le_of_not_lt fun z => o1 (.inl z)
   refine .bnd rfl (.bnd P.load (.bnd (dc ps pi) (.call (zEk_ (DD k) (by omega) P.R P.S o2 (by omega)) fun r17 ⟨q17, k17⟩ => ?_)))
   rw [if_neg (fun z => z.elim (fun z => by omega) fun z => by omega)] at q17
   refine Wp.newE fun h18 e18 k18 n18 g18 => ?_
   rw [q17] at e18
   obtain ⟨s', h9', a1, a2, A9, c9', d9⟩ := Acc.pushK (P.A.keeps k17) (fun _ => rfl) (bA (zW_ (zLb_ sup its).2.1 (zLb_ sup its).2.2)) (bytes := 16) e18 (by omega) (by decide) (Nat.le_trans kp.nx k17.nx)
   refine .bnd a1 (.bnd a2 (.of ⟨rfl, A9, (kp.trans k17).keepsS c9' fun y ⟨a, ha, e⟩ => by rw [e]; exact (P.A.lt a ha).2⟩))
  | succ d ih =>
   intro i o ps pi H hd kp hn P hO
   rw [zg_]; simp only [zYd_]
   obtain ⟨x, hx⟩ := zv_ (l := its) (i := i) (by omega)
   have okx := ok.2 x (zll_ hx)
   obtain ⟨q, b1, b2, _⟩ := (S.keeps kp).ld zG_ (by decide) hx
   have est : zLb_ sup (its.take (i + 1)) = zFi_ (zLb_ sup (its.take i)) x := by rw [← zHr_, List.take_add_one, hx]; rfl
   have hO2 := zpz_ hO okx
   rw [← est] at hO2
   obtain ⟨o1, o2, o3, o4⟩ := hO
   obtain ⟨sp, esp⟩ : ∃ sp, sp = zLb_ sup (its.take i) := ⟨_, rfl⟩
   rw [← esp] at P o1 o2 o3 o4 est
   have hs1 : sp.2.1.length ≤ 4096 := Nat.le_of_not_lt fun z => o1 (.inl z)
   have nk := kp.nx
   refine .ifp (by rw [il]; simp; omega) (.bnd b1 (.bnd b2 (.bnd (zvb_ x) (Wp.newE fun h32 e32 k32 n32 g32 => Wp.stL g32 rfl rfl rfl (by decide) fun h33 c33 n33 g33 => ?_))))
   have k33 : zc_ H h33 := k32.keepsS c33 fun y hy => by subst hy; omega
   obtain ⟨h34, e34⟩ : ∃ h34, h34 = AHeap.resv h33 2 := ⟨_, rfl⟩
   rw [← e34]
   have k34 : zc_ h33 h34 := ⟨by rw [e34]; show h33.next ≤ h33.next + 2; omega, fun b hb _ => by rw [e34]; rfl⟩
   have n34 : h34.next = h33.next + 2 := by rw [e34]; rfl
   have kH34 : zc_ H h34 := k33.trans k34
   have gx34 : h34.get H.next = some (.cells (itC x) 57 true 0) := k34.got (by omega) g33
   have P34 := P.keeps kH34
   obtain ⟨h42, e42⟩ : ∃ h42, h42 = AHeap.set h34 (h33.next + 0) (.cells (itC x) 57 true 0) := ⟨_, rfl⟩
   have kH42 : zc_ H h42 := by rw [e42]; exact zc_.set kH34 (by omega)
   have k3342 : zc_ h33 h42 := by rw [e42]; exact zc_.set k34 (by omega)
   have n42 : h42.next = h33.next + 2 := by rw [e42]; exact n34
   have g42 : h42.get (h33.next + 0) = some (.cells (itC x) 57 true 0) := by rw [e42]; simp
   obtain ⟨c, s', h43, a1, a2, A43, k43, es'⟩ := zIB_ (k := k) (D := DD k) (base := h.next) P.S kH42 (by omega) (by omega) P.cl x
   have P42 := P.keeps kH42
   have P43 := P42.keeps k43
   refine .bnd rfl (.bnd (zB_ (o := 0 + 1) P34.blk rfl) (.bnd (a1 h34) (.bnd (zA_ gx34 rfl) (.gp (ssw1 (by rw [zA_ (sp := none) (n := 6) gx34 rfl]; rfl)) (.bnd (zvb_ x) ?_)))))
   have e42' : AHeap.set h34 (h33.next + 0) (.cells [.string x.1, .string x.2.1, .int .i64 x.2.2.1, .int .i64 x.2.2.2.1, .int .i64 x.2.2.2.2.1, .int .i64 x.2.2.2.2.2] 57 true 0) = h42 := e42.symm
   rw [e42']
   have er : Gx.rdS 6 ⟨some ⟨h33.next + 0, 0, some 0⟩, 1, 1⟩ h42 = some (itC x) := by
    simp only [Gx.rdS]
    rw [zkf_ g42 (by simp [itC])]
    rfl
   have n43 : h42.next < h43.next := (A43.lt _ es').1
   refine .bnd er (.bnd a2 (.bnd rfl (.bnd (zB_ (o := 0 + 0) P43.blk rfl) (.gp (fun HH hH => ?_) ?_))))
   ·simp only [List.mem_cons, List.not_mem_nil, or_false] at hH
    dsimp only
    rcases hH with z | z | z
    ·rw [z, zB_ (sp := none) (o := 0 + 0) P42.blk rfl]; rfl
    ·rw [z, zB_ (sp := none) (o := 0 + 0) P34.blk rfl]; rfl
    ·rw [z, zB_ (sp := none) (o := 0 + 0) P34.blk rfl]; rfl
   obtain ⟨h49, e49⟩ : ∃ h49, h49 = AHeap.set h43 (h33.next + 1) (.cells [.slice none 0 0, .slice none 0 0] 38 true 0) := ⟨_, rfl⟩
   rw [← e49]
   have g49 : h49.get (h33.next + 1) = some (.cells [.slice none 0 0, .slice none 0 0] 38 true 0) := by rw [e49]; simp
   have n49 : h49.next = h43.next := by rw [e49]; rfl
   have c49 : Chg (· = h33.next + 1) h43 h49 := by rw [e49]; exact Chg.set (.inr rfl)
   refine Wp.stL g49 rfl rfl rfl (by decide) fun h50 c50 n50 g50 => Gx.Wp.jn fun j58 h58 => ?_
   have c4350 : Chg (· = h33.next + 1) h43 h50 := Chg.trans c49 c50
   have kH43 : zc_ H h43 := kH42.trans k43
   have kH50 : zc_ H h50 := kH43.keepsS c4350 fun y hy => by subst hy; omega
   have P50 := P.keeps kH50
   have S50 : RowW 6 itC h50 s' (sp.2.2 ++ [x]) := (A43.row zG_).chg c4350 fun a ha z => by rw [es'] at ha; cases ha; have z' : h42.next = h33.next + 1 := z; omega
   have okm : zCi_ sp.2.1 (sp.2.2 ++ [x]) := ⟨o2.1, fun y hy => by
    rcases List.mem_append.1 hy with g | g
    ·exact o2.2 y g
    ·rw [List.mem_singleton.1 g]; exact okx⟩
   have n4350 := c4350.nx
   refine .bnd (zA_ g50 rfl) (.bnd (dc ps s') (.call (zEk_ (DD k) (by omega) P50.R S50 okm (by simp; omega)) fun r66 ⟨q66, k66⟩ => ?_))
   rw [if_neg (fun z => z.elim (fun z => by omega) fun z => by simp at z; omega)] at q66
   have n66 := k66.nx
   have g66 := k66.got (by omega) g50
   have kH66 : zc_ H r66.2 := kH50.trans k66
   have P66 := P.keeps kH66
   have turn : ∀ (H2 : AHeap) (o2 a b : Slc) (s2 : Sp), s2 = zLb_ sup (its.take (i + 1)) → zc_ h H2 → h9.next ≤ H2.next → H2.get (h33.next + 1) = some (.cells [.slice a.a a.len a.cap, .slice b.a b.len b.cap] 38 true 0) → h33.next + 1 < H2.next → (∃ cc, H2.get r6.2.next = some (.cells cc 38 true 0) ∧ cc.length = 2) → Row encS H2 a s2.2.1 → RowW 6 itC H2 b s2.2.2 → Acc encS 9 h.next H2 o2 s2.1 → zvu_ b → (∀ z, a.a = some z → z.block < h.next) → (∀ z, b.a = some z → h.next ≤ z.block ∧ z.block ≠ r6.2.next ∧ z.block < H2.next) → (∀ z, o2.a = some z → z.block ≠ r6.2.next) → (∀ z c, b.a = some z → o2.a = some c → z.block ≠ c.block) → Gx.Wp (j58 o2 (some ⟨r6.2.next, 0, none⟩) (some ⟨h33.next + 1, 0, none⟩) fi (fi.len : Int) (i : Int) H2) fun z => z.1.2 = 0 ∧ Gx.Acc encS 9 h.next z.2 z.1.1 ((zLb_ sup its).1 ++ [bA (zW_ (zLb_ sup its).2.1 (zLb_ sup its).2.2)]) ∧ zc_ h z.2 := fun H2 o2 a b s2 e2 kH2 hn2 gm hlt ⟨cc, gp, hcc⟩ Ra Sb Ao hcl pp pq po ap => by
    rw [h58]
    refine .bnd rfl (.bnd (zA_ gm rfl) (.bnd (dc a b) (.bnd rfl (Wp.stL gp hcc rfl rfl (by decide) fun h63 c63 n63 g63 => ?_))))
    rw [Gx.w1 (by omega)]
    refine ih (i + 1) o2 a b h63 (by omega) (kH2.keepsS c63 fun y hy => by subst hy; omega) (by omega) ?_ hO2
    rw [← e2]
    exact ⟨g63, Ra.chg c63 fun z hz q => by have := pp z hz; omega, Sb.chg c63 fun z hz q => (pq z hz).2.1 q, Ao.chg c63 fun z hz q => po z hz q, hcl, by omega, by omega, pp, fun z hz => ⟨(pq z hz).1, (pq z hz).2.1, by have := (pq z hz).2.2; omega⟩, po, ap⟩
   have tb := zdB_ (x := x) o1 (by omega)
   by_cases ct : tooB sp.2.1 (sp.2.2 ++ [x])
   ·have e2 : zLb_ sup (its.take (i + 1)) = (sp.1 ++ [bA (zW_ sp.2.1 sp.2.2)], [], [x]) := by rw [est]; unfold zFi_; rw [if_pos ct]
    have hf : r66.1.2 = false := by rw [q66]; exact decide_eq_false (by have := tb.1 ct; omega)
    refine .ifp (by rw [hf]; rfl) (.bnd rfl (.bnd P66.load (.bnd (dc ps pi) (.call (zEk_ (DD k) (by omega) P66.R P66.S o2 (by omega)) fun r70 ⟨q70, k70⟩ => ?_))))
    rw [if_neg (fun z => z.elim (fun z => by omega) fun z => by omega)] at q70
    have n70 := k70.nx
    have P70 := P66.keeps k70
    refine Wp.newE fun h71 e71 k71 n71 g71 => ?_
    rw [q70] at e71
    obtain ⟨s'', h72, b1', b2', A72, c72, d72⟩ := Acc.pushK P70.A (fun _ => rfl) (bA (zW_ sp.2.1 sp.2.2)) (bytes := 16) e71 (by omega) (by decide) (by omega)
    have n72 : r70.2.next ≤ h72.next := c72.nx
    have hc72 : ∀ y, ofS o y → h.next ≤ y := fun y ⟨a, ha, e⟩ => by rw [e]; exact (P.A.lt a ha).2
    have c70' : Chg (ofS o) r70.2 h72 := c72
    have ox : ∀ y, ofS o y → y ≠ H.next ∧ y ≠ h33.next + 1 ∧ y ≠ r6.2.next := fun y ⟨a, ha, e⟩ => by
     have := (P.A.lt a ha).1
     have := P.po a ha
     omega
    have gi72 : h72.get H.next = some (.cells (itC x) 57 true 0) := c70'.got (by omega) (fun z => (ox _ z).1 rfl) (k70.got (by omega) (k66.got (by omega) (c4350.got (by omega) (by omega) (k43.got (by omega) (k3342.got (by omega) g33)))))
    have gm72 : h72.get (h33.next + 1) = some (.cells [.slice ps.a ps.len ps.cap, .slice s'.a s'.len s'.cap] 38 true 0) := c70'.got (by omega) (fun z => (ox _ z).2.1 rfl) (k70.got (by omega) g66)
    have gp72 := c70'.got P70.lt (fun z => (ox _ z).2.2 rfl) P70.blk
    refine .bnd b1' (.bnd b2' (.bnd (zA_ gi72 rfl) (.bnd (zvb_ x) (Wp.newE fun h76 e76 k76 n76 g76 => ?_))))
    have n76' : h76.next = h72.next + 1 := n76
    have gm76 := k76.got (show h33.next + 1 < h72.next by omega) gm72
    refine Wp.stL gm76 rfl rfl rfl (by decide) fun h77 c77 n77 g77 => ?_
    have gx77 : h77.get h72.next = some (.cells (itC x) 57 true 0) := c77.got (by omega) (by omega) g76
    have kz : zc_ h h77 := ((((kp.trans kH66).trans k70).keepsS c72 hc72).trans k76).keepsS c77 fun y hy => by subst hy; omega
    refine turn h77 s'' ⟨none, 0, 0⟩ ⟨some ⟨h72.next, 0, some 0⟩, 1, 1⟩ (sp.1 ++ [bA (zW_ sp.2.1 sp.2.2)], [], [x]) e2.symm kz (by omega) g77 (by omega) ⟨_, c77.got (by have := P70.lt; omega) (by have := P.lt; omega) (k76.got (by have := P70.lt; omega) gp72), rfl⟩ (Row.nil _ _ _ _) (zqD_ x gx77 (by omega)) ((A72.keeps k76).chg c77 fun a ha z => by have := d72 a ha; omega) ⟨fun _ => by simp, fun a ha => by cases ha; rfl, Nat.le_refl _⟩ (fun z hz => by cases hz) (fun z hz => by cases hz; exact ⟨by show h.next ≤ h72.next; omega, by have := P.lt; show h72.next ≠ _; omega, by show h72.next < h77.next; omega⟩) (fun z hz => by have := d72 z hz; have := P.lt; omega) (fun z c hz hc => by cases hz; have := (A72.lt c hc).1; show h72.next ≠ c.block; omega)
   ·have e2 : zLb_ sup (its.take (i + 1)) = (sp.1, sp.2.1, sp.2.2 ++ [x]) := by rw [est]; unfold zFi_; rw [if_neg ct]
    have hf : r66.1.2 = true := by rw [q66]; exact decide_eq_true (Nat.le_of_not_lt fun z => ct (tb.2 z))
    refine .ifn (by rw [hf]; decide) ?_
    have hcs : zvu_ s' := by
     rcases A43.st with ⟨z, _⟩ | ⟨b, z, _⟩
     ·rw [z] at es'; cases es'
     ·rw [z]; exact ⟨fun _ => by simp, fun a ha => by cases ha; rfl, Nat.le_refl _⟩
    refine turn r66.2 o ps s' (sp.1, sp.2.1, sp.2.2 ++ [x]) e2.symm (kp.trans kH66) (by omega) g66 (by omega) ⟨_, P66.blk, rfl⟩ P66.R (S50.keeps k66) P66.A hcs P.pp (fun z hz => by rw [es'] at hz; cases hz; exact ⟨by show h.next ≤ h42.next; omega, by have := P.lt; show h42.next ≠ _; omega, by show h42.next < r66.2.next; omega⟩) P.po (fun z c hz hc => by rw [es'] at hz; cases hz; have := (P.A.lt c hc).1; show h42.next ≠ c.block; omega)
 have n46 := k46.nx
 refine loop its.length 0 ⟨none, 0, 0⟩ fs ⟨none, 0, 0⟩ h9 (by omega) k09 (Nat.le_refl _) ?_ ?_
 ·exact ⟨g9, R.keeps k09, RowW.nil _ _ _ _ _, Acc.nil _ _ _ _, ⟨fun z => absurd rfl z, fun a ha => (by cases ha), Nat.le_refl _⟩, by omega, n16, bf, fun a ha => (by cases ha), fun a ha => (by cases ha), fun a c ha => by cases ha⟩
 ·exact ⟨c1, ⟨ok.1, fun y hy => (List.not_mem_nil hy).elim⟩, Nat.le_refl _, Nat.le_refl _⟩
end
def mixC : List Value := [.int .i64 31, .int .u64 13787848793156543929, .int .i64 29, .int .u64 1]
def KM (h : AHeap) : Prop := 1 < h.next ∧ ∃ t r fz, h.get 1 = some (.cells mixC t r fz)
theorem KM.keeps {h h' : AHeap} (k : KM h) (c : zc_ h h') : KM h' := by
 obtain ⟨l, t, r, fz, g⟩ := k
 exact ⟨Nat.lt_of_lt_of_le l c.nx, t, r, fz, c.got l g⟩
section
variable {k : Nat} {h : AHeap}
abbrev Mx := Int × Int × Int × Int
def mixV : Mx := (31, 13787848793156543929, 29, 1)
theorem znv_ (D : za_) {j4 : Int → AHeap → Option (Int × AHeap)} {rec11 : Int → Mx → Int → AHeap → Option (Int × AHeap)} {Q : Int × AHeap → Prop} (y : Nat) (hy : y < 2) (x : Int) (h : AHeap)
  (J : ∀ x' H, zc_ h H → Gx.Wp (rec11 x' mixV ((y + 1 : Nat) : Int) H) Q) : Gx.Wp (zje_ k D j4 rec11 x mixV (y : Int) h) Q := by
 obtain ⟨a, b, e, ha⟩ : ∃ a b : Int, decC [.i .i64, .i .u64] ((([Value.int .i64 mixV.1, .int .u64 mixV.2.1, .int .i64 mixV.2.2.1, .int .u64 mixV.2.2.2] : List Value).drop ((y : Int).toNat * 2)).take 2) = some (a, b) ∧ 0 ≤ a := by
  rcases (by omega : y = 0 ∨ y = 1) with rfl | rfl
  ·exact ⟨31, 13787848793156543929, rfl, by decide⟩
  ·exact ⟨29, 1, rfl, by decide⟩
 unfold zje_
 refine .ifp (by simp; omega) (.ifp (by omega) (.ifp (by show (y : Int).toNat * 2 + 2 ≤ 4; omega) (.bnd e (Wp.new fun h1 k1 n1 g1 => Wp.stL g1 rfl rfl rfl (by decide) fun h2 c2 n2 g2 => ?_))))
 have k2 : zc_ h h2 := k1.keepsS c2 fun z hz => (show h.next ≤ z from by rw [hz]; exact Nat.le_refl _)
 refine .bnd (zp_ (o := 0) g2 rfl) (.ifp ha (.bnd (zp_ (o := 1) g2 rfl) ?_))
 rw [show IntKind.wrap .i64 ((y : Int) + 1) = ((y + 1 : Nat) : Int) by rw [Gx.w64 _ (by omega)]; rfl]
 exact J _ _ k2
theorem zxv_ (D : za_) (hk : 3 ≤ k) (M : KM h) (b : Int) : Gx.Wp (zip_ k D b h) fun z => zc_ h z.2 := by
 obtain ⟨_, t, r, fz, g⟩ := M
 simp only [zip_]
 refine Wp.jn fun j4 h4 => .bnd (zA_ g rfl) (.bnd (a := mixV) rfl ?_)
 unfold zur_
 obtain ⟨bot, eb⟩ := zq_ (fun _ _ _ _ => none) (zje_ k D j4) (show 3 ≤ k from hk)
 rw [eb]
 refine znv_ D 0 (by decide) _ _ fun x1 H1 k1 => znv_ D 1 (by decide) _ _ fun x2 H2 k2 => ?_
 show Gx.Wp (zje_ k D j4 (zi_ bot 0 (zje_ k D j4)) x2 mixV ((2 : Nat) : Int) H2) _
 unfold zje_
 refine .ifn (by decide) ?_
 rw [h4]
 exact .of (k1.trans k2)
theorem zny_ (D : za_) (hk : 3 ≤ k) {s : ByteArray} (hs : s.size ≤ 50) {j7 : ByteArray → AHeap → Option (Int × AHeap)} (hj : j7 = fun (s5 : ByteArray) (h6 : AHeap) => some ((s5.size : Int), h6)) {h0 : AHeap} {b : Nat} (bot) :
  ∀ (d i : Nat) (x : Int) (H : AHeap), i + d = s.size → 4 ≤ i → zc_ h0 H → h0.next ≤ b → b < H.next → H.get b = some (.cells [.int .i64 5, .int .i64 3, .int .i64 50] 27 true 0) → KM H →
  Gx.Wp (zi_ bot (d + 1) (zwb_ k D j7) s (some ⟨b, 0, none⟩) x (i : Int) H) fun z => ∃ n : Nat, z.1 = (n : Int) ∧ (5 ≤ n ∨ n = s.size) ∧ n ≤ s.size ∧ zc_ h0 z.2 := by
 intro d
 induction d with
 | zero =>
  intro i x H hd h0s kp hb hl g M
  show Gx.Wp (zwb_ k D j7 (zi_ bot 0 _) s _ x (i : Int) H) _
  unfold zwb_
  refine .ifn (by simp; omega) ?_
  rw [hj]
  exact .of ⟨s.size, rfl, .inr rfl, Nat.le_refl _, kp⟩
 | succ d ih =>
  intro i x H hd h0s kp hb hl g M
  show Gx.Wp (zwb_ k D j7 (zi_ bot (d + 1) _) s _ x (i : Int) H) _
  unfold zwb_
  have bs : (bl s).length = s.size := zh_ s
  obtain ⟨c, hc⟩ := zv_ (l := bl s) (i := i) (by omega)
  refine .ifp (by simp; omega) (.bnd (zof_ hc) (.call (zxv_ D hk M _) fun r16 k16 => .bnd rfl (.bnd (zp_ (o := 0 + 1) (k16.got hl g) rfl) (.ifp (by decide) ?_))))
  have kp' := kp.trans k16
  have nx := k16.nx
  rw [show IntKind.wrap .i64 ((i : Int) + 1) = ((i + 1 : Nat) : Int) by rw [Gx.w64 _ (by omega)]; rfl]
  by_cases hz : ((Int.fdiv (IntKind.wrap .u64 ((IntKind.wrap .u64 (x * 2)) + r16.1)) (2 ^ (min ((IntKind.wrap .i64 (64 - 3))).toNat (IntKind.bits .u64)))) == 0) = true
  ·exact .ifp hz (.of ⟨i + 1, rfl, .inl (by omega), by omega, kp'⟩)
  ·exact .ifn hz (ih (i + 1) _ r16.2 (by omega) (by omega) kp' hb (by omega) (k16.got hl g) (M.keeps k16))
theorem zGy_ (D : za_) (hk : 60 ≤ k) (M : KM h) {s : ByteArray} (hs : s.size ≤ 100000) :
  Gx.Wp (zSe_ k D (5, 3, 50) s h) fun z => ∃ n : Nat, z.1 = (n : Int) ∧ (5 ≤ n ∨ n = s.size) ∧ n ≤ s.size ∧ n ≤ 50 ∧ zc_ h z.2 := by
 simp only [zSe_]
 refine Wp.new fun h1 k1 n1 g1 => .bnd (zp_ (o := 0) g1 rfl) ?_
 by_cases c : s.size ≤ 5
 ·exact .ifp (by simp; omega) (.of ⟨s.size, rfl, .inr rfl, Nat.le_refl _, by omega, k1⟩)
 ·refine .ifn (by simp; omega) (.bnd (zp_ (o := 2) g1 rfl) ?_)
  have bs : (bl s).length = s.size := zh_ s
  have em : (if (50 : Int) < (s.size : Int) then (50 : Int) else (s.size : Int)) = ((min 50 s.size : Nat) : Int) := by split <;> omega
  rw [em]
  refine .bnd (zFb_ (i := 0) (j := min 50 s.size) rfl rfl (by omega) (by omega)) (Wp.jn fun j7 h7 => .bnd (zp_ (o := 0) g1 rfl) ?_)
  obtain ⟨t, ht⟩ : ∃ t : ByteArray, t = ⟨⟨((bl s).take (min 50 s.size)).drop 0⟩⟩ := ⟨_, rfl⟩
  rw [← ht]
  have ts : t.size = min 50 s.size := by
   rw [ht]
   show (((bl s).take (min 50 s.size)).drop 0).length = _
   rw [List.drop_zero, List.length_take, bs]; omega
  unfold zRh_
  obtain ⟨bot, eb⟩ := zq_ (fun _ _ _ _ _ => none) (zwb_ k D j7) (show (t.size - 4) + 1 ≤ k by omega)
  rw [eb, show IntKind.wrap .i64 (5 - 1) = ((4 : Nat) : Int) from rfl]
  refine .mono (zny_ D (by omega) (by omega) h7 bot (t.size - 4) 4 0 h1 (by omega) (by omega) k1 (Nat.le_refl _) (by omega) g1 (M.keeps k1)) fun z ⟨n, e1, e2, e3, e4⟩ => ⟨n, e1, by omega, by omega, by omega, e4⟩
theorem zRv_ (D : za_) (h : AHeap) : Gx.Wp (zgj_ k D (5, 3, 50) h) fun z => z.1 = 0 ∧ zc_ h z.2 := by
 simp only [zgj_]
 refine Wp.new fun h1 k1 n1 g1 => Wp.jn fun j4 h4 => .bnd (zp_ (o := 0) g1 rfl) (.ifp (by decide) (.bnd (zp_ (o := 0) g1 rfl) (.ifp (by decide) (.bnd (zp_ (o := 1) g1 rfl) (.ifp (by decide) (.bnd (zp_ (o := 1) g1 rfl) (.ifp (by decide)
  (.bnd (zp_ (o := 2) g1 rfl) (.bnd (zp_ (o := 0) g1 rfl) (.ifp (by decide) (.bnd (zp_ (o := 2) g1 rfl) ?_)))))))))))
 rw [h4]
 exact .ifn (by decide) (.of ⟨rfl, k1⟩)
end
end Gg
