import Derived.Test.YtcacldakplomnaaGreatDoorSp1
namespace Gz
open Go Gx Go.Proofs
theorem repL (c : Nat) : Lib.repeatL [0] c = List.replicate c (0 : UInt8) := by
  induction c with
  | zero => rfl
  | succ c ih => simp [Lib.repeatL, ih, List.replicate_succ]
theorem pad_bl {k : Nat} (s : ByteArray) : s ++ repB (⟨#[0]⟩ : ByteArray) (k * nE k s.size - s.size) = ⟨⟨padL k s⟩⟩ := by
  have e : repB (⟨#[0]⟩ : ByteArray) (k * nE k s.size - s.size) = ⟨⟨List.replicate (k * nE k s.size - s.size) 0⟩⟩ := by
    unfold repB
    have : (⟨#[0]⟩ : ByteArray).data.toList = [0] := rfl
    rw [this, repL]
  rw [e]
  exact ba_app (bl s) _
theorem row_fill {h : AHeap} {ob T i k : Nat} {f : Nat → ByteArray} {cap : Nat} (hb : h.get ob = some (outB encS 9 (filT f T i))) (hl : ob < h.next) (hk : k ≤ i) : Row encS h (⟨some ⟨ob, 0, some 0⟩, k, cap⟩ : Slc) ((List.range k).map f) := by
  have := Row.of_block (enc := encS) (h := h) (xs := (List.range k).map f) (b := ob) (o := 0) (sp := some 0) (cap := cap) (c := (filT f T i).map encS) (e := 9) (r := true) (fz := 0) hb hl (fun j x hx => by
    have hj : j < k := by
      have := (List.getElem?_eq_some_iff.1 hx).1; simpa using this
    have hx' : x = f j := by simp [hj] at hx; exact hx.symm
    rw [Nat.zero_add, List.getElem?_map, filT_get (show j < i by omega), hx']; rfl)
  simpa using this
theorem shard_piece {k i : Nat} (s : ByteArray) (hi : i < k) : shardB k s i = pieceB k s i := by unfold shardB; rw [if_pos hi]
theorem pieces_range {k : Nat} (s : ByteArray) : (List.range k).map (shardB k s) = piecesL k s := by
  apply List.map_congr_left
  intro i hi
  exact shard_piece s (List.mem_range.1 hi)
theorem sub_piece {k i : Nat} (hk : 0 < k) (hk2 : k ≤ 255) (s : ByteArray) (hs : s.size ≤ 65536) (hi : i < k) :
    Gx.subS (⟨⟨padL k s⟩⟩ : ByteArray) (some (IntKind.wrap .i64 ((i : Int) * ((nE k s.size : Nat) : Int)))) (some (IntKind.wrap .i64 ((IntKind.wrap .i64 ((i : Int) + 1)) * ((nE k s.size : Nat) : Int)))) = some (pieceB k s i) := by
  have hn := nE_le hk s.size
  generalize hnn : nE k s.size = n at *
  have h1 : (i + 1) * n ≤ k * n := Nat.mul_le_mul_right _ hi
  have h2 : i * n ≤ (i + 1) * n := Nat.mul_le_mul_right _ (by omega)
  have e1 : (i : Int) * (n : Int) = ((i * n : Nat) : Int) := by simp
  have e3 : IntKind.wrap .i64 ((i : Int) + 1) = ((i + 1 : Nat) : Int) := by rw [w64 _ (by omega)]; omega
  have e4 : ((i + 1 : Nat) : Int) * (n : Int) = (((i + 1) * n : Nat) : Int) := by simp
  rw [e3, e4, e1, w64 ((i * n : Nat) : Int) (by omega), w64 (((i + 1) * n : Nat) : Int) (by omega)]
  have hsz : (⟨⟨padL k s⟩⟩ : ByteArray).size = k * n := by rw [size_mk, padL_length hk, hnn]
  rw [subS_of (i := i * n) (j := (i + 1) * n) rfl rfl h2 (by rw [hsz]; exact h1)]
  unfold pieceB; rw [hnn]; rfl
abbrev sl1T := Option Addr → ByteArray → Int → Slc → Int → Int → AHeap → Option ((Slc × Int) × AHeap)
theorem split_l1 (K : Nat) (D : CallF) (j) (bot : sl1T) (p : Option Addr) {k m : Nat} (hk : 0 < k) (hk2 : k ≤ 255) (s : ByteArray) (hs : s.size ≤ 65536) {ob : Nat} : ∀ (d i : Nat) (h : AHeap), i + d = k → ob < h.next → h.get ob = some (outB encS 9 (filT (shardB k s) (k + m) i)) →
    ∃ h', iterK bot (d + 1) (stripe_Plan_Split_l1b K D j) p (⟨⟨padL k s⟩⟩ : ByteArray) ((nE k s.size : Nat) : Int) (⟨some ⟨ob, 0, some 0⟩, i, k + m⟩ : Slc) (k : Int) (i : Int) h = j p (⟨some ⟨ob, 0, some 0⟩, k, k + m⟩ : Slc) h' ∧
      h'.get ob = some (outB encS 9 (filT (shardB k s) (k + m) k)) ∧ Chg (· = ob) h h'
  | 0, i, h, hi, hl, hb => by
    obtain rfl : i = k := by omega
    refine ⟨h, ?_, hb, Chg.refl _ _⟩
    rw [iterK_s]; simp only [stripe_Plan_Split_l1b]
    exact ifn (by simp) rfl
  | d + 1, i, h, hi, hl, hb => by
    let h1 := h.new (.cells [.string (pieceB k s i)] 9 true 0)
    have k1 : Keeps h h1 := Keeps.new _ _
    have hb1 : h1.get ob = some (outB encS 9 (filT (shardB k s) (k + m) i)) := (k1.oth _ hl (fun f => f)).trans hb
    let h2 := h1.set ob (outB encS 9 (filT (shardB k s) (k + m) (i + 1)))
    have c2 : Chg (· = ob) h1 h2 := Chg.set (.inr rfl)
    obtain ⟨h', r, b', c'⟩ := split_l1 K D j bot p hk hk2 s hs (m := m) (ob := ob) d (i + 1) h2 (by omega) (by show ob < h.next + 1; omega) (set_get _ _ _)
    refine ⟨h', ?_, b', (Chg.keeps k1).trans (c2.trans c')⟩
    rw [iterK_s]; simp only [stripe_Plan_Split_l1b]
    refine ifp (by simp; omega) ?_
    refine bnd (sub_piece hk hk2 s hs (by omega)) ?_
    refine bnd rdS_one ?_
    refine bnd (fil_push hb1 (by omega) (by rw [shard_piece s (by omega)])) ?_
    rw [w1 (by omega)]
    exact r
theorem srow_spec (k0 : Nat) (D : CallF) {h : AHeap} {pb f2 B sb fb k m : Nat} (p : PL h pb f2 B sb fb k m) (hk : 0 < k) (hR : k + m ≤ 255) {i : Nat} (hi : i < k + m) :
    ∃ h', stripe_Plan_row k0 D (some ⟨pb, 0, none⟩) (((k + m : Nat) : Int), (k : Int), whole B ((k + m) * k)) (i : Int) h = some ((⟨some ⟨B, i * k, some 0⟩, k, (k + m) * k - i * k⟩ : Slc), h') ∧ Keeps h h' := by
  simp only [stripe_Plan_row]
  let h1 := h.new (.cells (mcell ((k + m : Nat) : Int) (k : Int) (whole B ((k + m) * k))) 84 true 0)
  have k1 : Keeps h h1 := Keeps.new _ _
  have b1 : h1.get h.next = some (.cells (mcell ((k + m : Nat) : Int) (k : Int) (whole B ((k + m) * k))) 84 true 0) := by simp [h1]
  have p1 := p.keeps k1
  have l0 : ldI .i64 ⟨pb, 0, none⟩ h1 = some (k : Int) := ldI_at p1.blk rfl
  have hle : i * k + k ≤ (k + m) * k := by have := Nat.mul_le_mul_right k hi; rw [Nat.succ_mul] at this; exact this
  have hN : (k + m) * k ≤ 65025 := Nat.le_trans (Nat.mul_le_mul hR (show k ≤ 255 by omega)) (by decide)
  refine ⟨h1, ?_, k1⟩
  have hL : ldL ⟨h.next, 2, none⟩ h1 = some (whole B ((k + m) * k)) := by simp [ldL, AHeap.rd1, b1, mcell, decL, whole]
  refine bnd hL (bnd rfl (bnd l0 (bnd rfl (bnd l0 ?_))))
  exact bnd (subL_row hk hle (by omega) (by omega)) rfl
abbrev sl0T := Option Addr → Slc → Slc → Int → Int → AHeap → Option ((Slc × Int) × AHeap)
theorem mix_bounds {k : Nat} (hk : 0 < k) (hk2 : k ≤ 255) (s : ByteArray) (hs : s.size ≤ 65536) : ∀ x ∈ piecesL k s, x.size ≤ 66000 := fun x hx => by
  rw [pieces_mem hk hx]
  have := nE_le hk s.size
  have h2 : nE k s.size ≤ k * nE k s.size := Nat.le_mul_of_pos_left _ hk
  omega
theorem split_l0 {k0 : Nat} (hk0 : 70000 ≤ k0) (j) (bot : sl0T) {pb f2 B sb fb k m : Nat} (hk : 0 < k) (hR : k + m ≤ 255) (s : ByteArray) (hs : s.size ≤ 65536) {ob : Nat} (o1 : ob ≠ f2) (o2 : ob ≠ pb) (o3 : ob ≠ B) (o4 : ob ≠ sb) (o5 : ob ≠ fb) : ∀ (d i : Nat) (h : AHeap), i + d = m → PL h pb f2 B sb fb k m → ob < h.next → h.get ob = some (outB encS 9 (filT (shardB k s) (k + m) (k + i))) →
    ∃ h', iterK bot (d + 1) (stripe_Plan_Split_l0b k0 (DD k0) j) (some ⟨pb, 0, none⟩) (⟨some ⟨ob, 0, some 0⟩, k + i, k + m⟩ : Slc) (⟨some ⟨ob, 0, some 0⟩, k, k⟩ : Slc) (m : Int) (i : Int) h = j (⟨some ⟨ob, 0, some 0⟩, k + m, k + m⟩ : Slc) h' ∧
      h'.get ob = some (outB encS 9 (filT (shardB k s) (k + m) (k + m))) ∧ PL h' pb f2 B sb fb k m ∧ Chg (fun x => x = ob ∨ x = f2) h h'
  | 0, i, h, hi, p, hl, hb => by
    obtain rfl : i = m := by omega
    refine ⟨h, ?_, hb, p, Chg.refl _ _⟩
    rw [iterK_s]; simp only [stripe_Plan_Split_l0b]
    exact ifn (by simp) rfl
  | d + 1, i, h, hi, p, hl, hb => by
    obtain ⟨h1, r1, k1⟩ := srow_spec k0 (DD k0) p hk hR (i := k + i) (by omega)
    have p1 := p.keeps k1
    have hl1 : ob < h1.next := Nat.lt_of_lt_of_le hl k1.nx
    have hb1 : h1.get ob = some (outB encS 9 (filT (shardB k s) (k + m) (k + i))) := (k1.oth _ hl (fun f => f)).trans hb
    have Rp : Row encS h1 (⟨some ⟨ob, 0, some 0⟩, k, k⟩ : Slc) (piecesL k s) := by
      have := row_fill (cap := k) hb1 hl1 (show k ≤ k + i by omega)
      rwa [pieces_range] at this
    have hle : (k + i) * k + k ≤ (k + m) * k := by
      have := Nat.mul_le_mul_right k (show k + i + 1 ≤ k + m by omega); rw [Nat.succ_mul] at this; exact this
    have Rc := mat_row p1.mat p1.lb hle ((k + m) * k - (k + i) * k) (some 0)
    have mb := mix_bounds hk (by omega) s hs
    obtain ⟨h2, r2, s2⟩ := fmix_spec (k := k0) (by omega) p1.fld p1.lf Rp Rc (fun a ha => by cases ha; exact o1) (fun a ha => by cases ha; exact p1.n1) (by rw [piecesL_length]; omega) (by rw [rowC_length]; omega)
      (fun x hx => by have := mb x hx; omega) (by rw [piecesL_length]; omega) (by rw [rowC_length]; omega) (fun x hx => by have := mb x hx; omega)
    have p2 := p1.fs2 s2
    have hb2 : h2.get ob = some (outB encS 9 (filT (shardB k s) (k + m) (k + i))) := (s2.oth _ hl1 o1).trans hb1
    have hl2 : ob < h2.next := Nat.lt_of_lt_of_le hl1 s2.nx
    have ex : (mixA (piecesL k s) (rowC k (k + i))).1 = shardB k s (k + i) := by unfold shardB; rw [if_neg (by omega)]
    let h3 := h2.new (.cells [.string (mixA (piecesL k s) (rowC k (k + i))).1] 9 true 0)
    have k3 : Keeps h2 h3 := Keeps.new _ _
    have p3 := p2.keeps k3
    have hb3 : h3.get ob = some (outB encS 9 (filT (shardB k s) (k + m) (k + i))) := (k3.oth _ hl2 (fun f => f)).trans hb2
    let h4 := h3.set ob (outB encS 9 (filT (shardB k s) (k + m) (k + i + 1)))
    have c4 : Chg (· = ob) h3 h4 := Chg.set (.inr rfl)
    have p4 : PL h4 pb f2 B sb fb k m := p3.chg c4 (fun e => o2 e.symm) (fun e => o1 e.symm) (fun e => o3 e.symm) (fun e => o4 e.symm) (fun e => o5 e.symm)
    obtain ⟨h', r, b', p', c'⟩ := split_l0 hk0 j bot hk hR s hs o1 o2 o3 o4 o5 d (i + 1) h4 (by omega) p4 (by show ob < h2.next + 1; omega) (set_get _ _ _)
    refine ⟨h', ?_, b', p', ?_⟩
    · rw [iterK_s]; simp only [stripe_Plan_Split_l0b]
      refine ifp (by simp; omega) ?_
      refine bnd rfl ?_
      have q1 : ldA 3 (⟨pb, 0 + 4, none⟩ : Addr) h = some (mcell ((k + m : Nat) : Int) (k : Int) (whole B ((k + m) * k))) := by
        simp only [ldA, AHeap.rdL, p.blk]; rfl
      refine bnd q1 (bnd rfl ?_)
      refine bnd rfl (bnd (ldI_at p.blk rfl) ?_)
      have e1 : IntKind.wrap .i64 ((k : Int) + (i : Int)) = ((k + i : Nat) : Int) := by rw [w64 _ (by omega)]; omega
      rw [e1]
      refine bnd r1 ?_
      have q2 : ldP (⟨pb, 0 + 2, none⟩ : Addr) h1 = some (some ⟨f2, 0, none⟩) := by simp [ldP, AHeap.rd1, p1.blk, decP]
      have q3 : ldP (⟨pb, 0 + 2, none⟩ : Addr) h = some (some ⟨f2, 0, none⟩) := by simp [ldP, AHeap.rd1, p.blk, decP]
      refine bnd rfl (bnd q2 (gp (sw1 (bnd q3 rfl)) ?_))
      refine bnd r2 ?_
      refine bnd rdS_one ?_
      refine bnd (fil_push hb3 (by omega) ex) ?_
      rw [w1 (by omega)]
      exact r
    · have a1 : Chg (fun x => x = ob ∨ x = f2) h h1 := k1.keeps
      have a2 : Chg (fun x => x = ob ∨ x = f2) h1 h2 := s2.chg.wk fun x _ e => .inr e
      have a3 : Chg (fun x => x = ob ∨ x = f2) h2 h3 := k3.keeps
      have a4 : Chg (fun x => x = ob ∨ x = f2) h3 h4 := c4.wk fun x _ e => .inl e
      exact a1.trans (a2.trans (a3.trans (a4.trans c')))
theorem split_spec {k0 : Nat} (hk0 : 70000 ≤ k0) {h : AHeap} {pb f2 B sb fb k m : Nat} (p : PL h pb f2 B sb fb k m) (hk : 0 < k) (hR : k + m ≤ 255) (s : ByteArray) (hs : s.size ≤ 65536) :
    ∃ h' ob, stripe_Plan_Split k0 (DD k0) (some ⟨pb, 0, none⟩) s h = some (((⟨some ⟨ob, 0, some 0⟩, k + m, k + m⟩ : Slc), 0), h') ∧ h'.get ob = some (outB encS 9 (shardsL k m s)) ∧ h.next ≤ ob ∧ ob < h'.next ∧ PL h' pb f2 B sb fb k m ∧ Chg (· = f2) h h' := by
  simp only [stripe_Plan_Split]
  have re := each_spec k0 (DD k0) p hk (by omega) (s.size : Int)
  rw [eachA_nat hk hs] at re
  have l0 : ldI .i64 ⟨pb, 0, none⟩ h = some (k : Int) := ldI_at p.blk rfl
  have l1 : ldI .i64 ⟨pb, 1, none⟩ h = some (m : Int) := ldI_at p.blk rfl
  have hge := nE_ge hk s.size
  have hle := nE_le hk s.size
  have ekn : (k : Int) * ((nE k s.size : Nat) : Int) = ((k * nE k s.size : Nat) : Int) := by simp
  have et : IntKind.wrap .i64 ((IntKind.wrap .i64 ((k : Int) * ((nE k s.size : Nat) : Int))) - (s.size : Int)) = ((k * nE k s.size - s.size : Nat) : Int) := by
    rw [ekn, w64 ((k * nE k s.size : Nat) : Int) (by omega), w64 _ (by omega)]; omega
  have hrep : repeatA (⟨#[0]⟩ : ByteArray) ((k * nE k s.size - s.size : Nat) : Int) = some (repB (⟨#[0]⟩ : ByteArray) (k * nE k s.size - s.size)) := by
    unfold repeatA
    rw [if_pos ⟨by omega, by omega, by rw [Int.toNat_natCast]; show 1 * _ ≤ _; omega⟩, Int.toNat_natCast]
  have hrs : (repB (⟨#[0]⟩ : ByteArray) (k * nE k s.size - s.size)).size = k * nE k s.size - s.size := by
    unfold repB
    have e1 : (⟨#[0]⟩ : ByteArray).data.toList = [0] := rfl
    rw [e1, repL]; exact (size_mk _).trans List.length_replicate
  have ekm : IntKind.wrap .i64 ((k : Int) + (m : Int)) = ((k + m : Nat) : Int) := by rw [w64 _ (by omega)]; omega
  let ob := h.next
  let h1 := h.new (outB encS 9 (filT (shardB k s) (k + m) 0))
  have k1 : Keeps h h1 := Keeps.new _ _
  have hz : (zerosL (((k + m : Nat) : Int)).toNat [.string ⟨#[]⟩]) = (filT (shardB k s) (k + m) 0).map encS := by
    rw [Int.toNat_natCast]; simp [zerosL, filT, encS, emT]
  have b1 : h1.get ob = some (outB encS 9 (filT (shardB k s) (k + m) 0)) := by simp [h1, ob]
  have p1 := p.keeps k1
  have hlp := p.lp; have hlf := p.lf; have hlb := p.lb; have hls := p.spc.ls; have hlg := p.spc.lf
  generalize hj14 : (fun (p11 : Option Addr) (out12 : Slc) (h13 : AHeap) => (p11.bind fun p15 => _ : Option ((Slc × Int) × AHeap))) = j14
  unfold stripe_Plan_Split_l1
  obtain ⟨bot1, e1⟩ := iterK_of (α := sl1T) (fun _ _ _ _ _ _ _ => none) (stripe_Plan_Split_l1b k0 (DD k0) j14) (show k + 1 ≤ k0 by omega)
  obtain ⟨h2, r2, b2, c2⟩ := split_l1 k0 (DD k0) j14 bot1 (some ⟨pb, 0, none⟩) hk (by omega) s hs (m := m) (ob := ob) k 0 h1 (by omega) (by show h.next < h.next + 1; omega) b1
  have p2 : PL h2 pb f2 B sb fb k m := p1.chg c2 (fun e => by have : pb = h.next := e; omega) (fun e => by have : f2 = h.next := e; omega) (fun e => by have : B = h.next := e; omega) (fun e => by have : sb = h.next := e; omega) (fun e => by have : fb = h.next := e; omega)
  have hl2 : ob < h2.next := Nat.lt_of_lt_of_le (by show h.next < h.next + 1; omega) c2.nx
  obtain ⟨bot0, e0⟩ := iterK_of (α := sl0T) (fun _ _ _ _ _ _ => none) (stripe_Plan_Split_l0b k0 (DD k0) fun (out20 : Slc) (h21 : AHeap) => some ((out20, 0), h21)) (show m + 1 ≤ k0 by omega)
  obtain ⟨h3, r3, b3, p3, c3⟩ := split_l0 hk0 (fun (out20 : Slc) (h21 : AHeap) => some ((out20, 0), h21)) bot0 (pb := pb) (f2 := f2) (B := B) (sb := sb) (fb := fb) hk hR s hs (ob := ob) (by show h.next ≠ _; omega) (by show h.next ≠ _; omega) (by show h.next ≠ _; omega) (by show h.next ≠ _; omega) (by show h.next ≠ _; omega) m 0 h2 (by omega) p2 hl2 b2
  refine ⟨h3, ob, ?_, ?_, Nat.le_refl _, Nat.lt_of_lt_of_le hl2 c3.nx, p3, ?_⟩
  · refine bnd re ?_
    refine ifn (by simp) ?_
    refine bnd rfl (bnd l0 ?_)
    rw [et]
    refine bnd hrep ?_
    refine ifp (by rw [hrs]; omega) ?_
    refine bnd rfl (bnd l0 (bnd rfl (bnd l1 ?_)))
    rw [ekm]
    refine ifp (by omega) ?_
    rw [hz]
    refine jn ?_
    refine bnd rfl (bnd (ldI_at p1.blk rfl) ?_)
    rw [pad_bl, Int.toNat_natCast]
    show iterK _ k0 (stripe_Plan_Split_l1b k0 (DD k0) j14) (some ⟨pb, 0, none⟩) (⟨⟨padL k s⟩⟩ : ByteArray) ((nE k s.size : Nat) : Int) (⟨some ⟨ob, 0, some 0⟩, 0, k + m⟩ : Slc) (k : Int) ((0 : Nat) : Int) h1 = _
    rw [e1, r2]
    subst hj14
    refine bnd rfl (bnd (ldI_at p2.blk rfl) (bnd rfl (bnd (ldI_at p2.blk rfl) ?_)))
    have hsub : Gx.subL 1 (⟨some ⟨ob, 0, some 0⟩, k, k + m⟩ : Slc) none (some (k : Int)) (some (k : Int)) = some (⟨some ⟨ob, 0, some 0⟩, k, k⟩ : Slc) := by
      simp only [Gx.subL, Option.getD_none, Option.getD_some]
      rw [if_pos (by omega), if_pos (show spOk (some 0) 1 = true from rfl), if_neg (by omega)]
      simp
    refine bnd hsub ?_
    refine jn ?_
    refine bnd rfl (bnd (ldI_at p2.blk rfl) ?_)
    unfold stripe_Plan_Split_l0
    rw [e0]
    exact r3
  · rw [b3, filT_all]; rfl
  · exact Chg.beh k1.keeps ((c2.wk (T := fun x => x = ob ∨ x = f2) fun x _ e => .inl e).trans c3) (fun x hx e => by
      rcases e with e | e
      · have : x = h.next := e; omega
      · exact e)
end Gz
namespace Gz
open Go Gx Go.Proofs
theorem beh_acc {α : Type} {enc : α → Value} {e : TypeId} {h0 h h' : AHeap} {s : Slc} {xs : List α} (k : Keeps h0 h) (A : Acc enc e h0.next h s xs) (c : Chg (ofS s) h h') : Keeps h0 h' :=
  Chg.beh k c fun x hx e => by
    obtain ⟨a, ha, rfl⟩ := e
    have := (A.lt a ha).2
    omega
theorem encS_one : ∀ x : ByteArray, one (encS x) = true := fun _ => rfl
abbrev rp0T := Option Addr → ByteArray → Int → Slc → Int → AHeap → Option ((Slc) × AHeap)
theorem rpieces_l0 (K : Nat) (D : CallF) (j) (bot : rp0T) {h0 : AHeap} {pb B k m : Nat} (hk : 0 < k) (hk2 : k ≤ 255) (s : ByteArray) (hs : s.size ≤ 65536) : ∀ (d i : Nat) (h : AHeap) (o : Slc), i + d = k → PR h0 pb B k m → Keeps h0 h → Acc encS 9 h0.next h o ((List.range i).map (pieceB k s)) →
    ∃ h' o', iterK bot (d + 1) (ref05_Plan_pieces_l0b K D j) (some ⟨pb, 0, none⟩) (⟨⟨padL k s⟩⟩ : ByteArray) ((nE k s.size : Nat) : Int) o (i : Int) h = j o' h' ∧ Keeps h0 h' ∧ Acc encS 9 h0.next h' o' (piecesL k s)
  | 0, i, h, o, hi, p, kh, A => by
    obtain rfl : i = k := by omega
    refine ⟨h, o, ?_, kh, A⟩
    rw [iterK_s]; simp only [ref05_Plan_pieces_l0b]
    refine bnd rfl (bnd (ldI_at (p.keeps kh).blk rfl) ?_)
    exact ifn (by simp) rfl
  | d + 1, i, h, o, hi, p, kh, A => by
    obtain ⟨o1, h1, ra, A1, c1, _⟩ := A.push (bytes := 16) encS_one (pieceB k s i) (by simp; omega) (by decide) kh.nx
    have kh1 := beh_acc kh A c1
    have e1 : (List.range i).map (pieceB k s) ++ [pieceB k s i] = (List.range (i + 1)).map (pieceB k s) := by rw [List.range_succ, List.map_append]; rfl
    rw [e1] at A1
    obtain ⟨h', o', r, k', A'⟩ := rpieces_l0 K D j bot (h0 := h0) (pb := pb) (B := B) (m := m) hk hk2 s hs d (i + 1) h1 o1 (by omega) p kh1 A1
    refine ⟨h', o', ?_, k', A'⟩
    rw [iterK_s]; simp only [ref05_Plan_pieces_l0b]
    refine bnd rfl (bnd (ldI_at (p.keeps kh).blk rfl) ?_)
    refine ifp (by simp; omega) ?_
    refine bnd (sub_piece hk hk2 s hs (by omega)) ?_
    refine bnd rdS_one ?_
    refine bnd ra ?_
    rw [w1 (by omega)]
    exact r
theorem size_run (k0 : Nat) (D : CallF) {k L : Nat} (hk : 0 < k) (hk2 : k ≤ 255) (hL : L ≤ 65536) (h : AHeap) : ref05_Size k0 D (k : Int) (L : Int) h = some (((nE k L : Nat) : Int), h) := by
  simp only [ref05_Size]
  refine ifn (by omega) ?_
  have e1 : (L : Int) + (k : Int) - 1 = ((L + k - 1 : Nat) : Int) := by omega
  have e2 : Int.tdiv ((L + k - 1 : Nat) : Int) (k : Int) = ((nE k L : Nat) : Int) := rfl
  have := nE_le hk L
  have h2 : nE k L ≤ k * nE k L := Nat.le_mul_of_pos_left _ hk
  rw [w64 ((L : Int) + (k : Int)) (by omega), e1, w64 ((L + k - 1 : Nat) : Int) (by omega), e2, w64 _ (by omega)]
theorem rpieces_spec {k0 : Nat} (hk0 : 70000 ≤ k0) (D : CallF) {h : AHeap} {pb B k m : Nat} (p : PR h pb B k m) (hk : 0 < k) (hk2 : k ≤ 255) (s : ByteArray) (hs : s.size ≤ 65536) :
    ∃ h' o, ref05_Plan_pieces k0 D (some ⟨pb, 0, none⟩) s h = some (o, h') ∧ Keeps h h' ∧ Acc encS 9 h.next h' o (piecesL k s) := by
  simp only [ref05_Plan_pieces]
  have l0 : ldI .i64 ⟨pb, 0, none⟩ h = some (k : Int) := ldI_at p.blk rfl
  have hge := nE_ge hk s.size
  have hle := nE_le hk s.size
  have ekn : (k : Int) * ((nE k s.size : Nat) : Int) = ((k * nE k s.size : Nat) : Int) := by simp
  have et : IntKind.wrap .i64 ((IntKind.wrap .i64 ((k : Int) * ((nE k s.size : Nat) : Int))) - (s.size : Int)) = ((k * nE k s.size - s.size : Nat) : Int) := by
    rw [ekn, w64 ((k * nE k s.size : Nat) : Int) (by omega), w64 _ (by omega)]; omega
  let h1 := h.new (.cells ((List.replicate (k * nE k s.size - s.size) (0 : UInt8)).map encB) 5 true 0)
  have k1 : Keeps h h1 := Keeps.new _ _
  have b1 : h1.get h.next = some (.cells ((List.replicate (k * nE k s.size - s.size) (0 : UInt8)).map encB) 5 true 0) := by simp [h1]
  have hbs := bytesOf_out (cap := k * nE k s.size - s.size) (sp := some 0) b1
  rw [List.length_replicate] at hbs
  obtain ⟨bot1, e1⟩ := iterK_of (α := rp0T) (fun _ _ _ _ _ _ => none) (ref05_Plan_pieces_l0b k0 D fun (out9 : Slc) (h10 : AHeap) => some (out9, h10)) (show k + 1 ≤ k0 by omega)
  obtain ⟨h', o', r, k', A'⟩ := rpieces_l0 k0 D (fun (out9 : Slc) (h10 : AHeap) => some (out9, h10)) bot1 (h0 := h) (pb := pb) (B := B) (m := m) hk hk2 s hs k 0 h1 ⟨none, 0, 0⟩ (by omega) p k1 (Acc.nil _ _ _ _)
  refine ⟨h', o', ?_, k', A'⟩
  refine bnd rfl (bnd l0 (bnd (size_run k0 D hk hk2 hs h) ?_))
  refine bnd rfl (bnd l0 ?_)
  rw [et]
  refine ifp (by omega) ?_
  rw [Int.toNat_natCast, zeros_bytes]
  refine bnd hbs ?_
  have hsz : (⟨⟨List.replicate (k * nE k s.size - s.size) (0 : UInt8)⟩⟩ : ByteArray).size = k * nE k s.size - s.size := (size_mk _).trans List.length_replicate
  refine ifp (by rw [hsz]; omega) ?_
  refine jn ?_
  have ep : s ++ (⟨⟨List.replicate (k * nE k s.size - s.size) 0⟩⟩ : ByteArray) = ⟨⟨padL k s⟩⟩ := ba_app (bl s) _
  rw [ep]
  unfold ref05_Plan_pieces_l0
  rw [e1]
  exact r
theorem rrow_spec (k0 : Nat) (D : CallF) {h : AHeap} {pb B k m : Nat} (p : PR h pb B k m) (hk : 0 < k) (hR : k + m ≤ 255) {i : Nat} (hi : i < k + m) :
    ref05_Plan_row k0 D (some ⟨pb, 0, none⟩) (i : Int) h = some ((⟨some ⟨B, i * k, some 0⟩, k, (k + m) * k - i * k⟩ : Slc), h) := by
  simp only [ref05_Plan_row]
  have l0 : ldI .i64 ⟨pb, 0, none⟩ h = some (k : Int) := ldI_at p.blk rfl
  have hle : i * k + k ≤ (k + m) * k := by have := Nat.mul_le_mul_right k hi; rw [Nat.succ_mul] at this; exact this
  have hN : (k + m) * k ≤ 65025 := Nat.le_trans (Nat.mul_le_mul hR (show k ≤ 255 by omega)) (by decide)
  have hL : ldL (⟨pb, 0 + 2 + 2, none⟩ : Addr) h = some (⟨some ⟨B, 0, some 0⟩, (k + m) * k, (k + m) * k⟩ : Slc) := by simp [ldL, AHeap.rd1, p.blk, decL]
  refine bnd rfl (bnd hL (bnd rfl (bnd l0 (bnd rfl (bnd l0 ?_)))))
  exact bnd (subL_row hk hle (by omega) (by omega)) rfl
abbrev rs0T := Option Addr → Slc → Slc → Int → AHeap → Option ((Slc) × AHeap)
theorem rshards_l0 {k0 : Nat} (hk0 : 70000 ≤ k0) (D : CallF) (j) (bot : rs0T) {h0 : AHeap} {pb B k m : Nat} (hk : 0 < k) (hR : k + m ≤ 255) (s : ByteArray) (hs : s.size ≤ 65536) (l : Slc) (hl : ∀ a, l.a = some a → a.block < h0.next) (R : Row encS h0 l (piecesL k s)) : ∀ (d i : Nat) (h : AHeap) (o : Slc), i + d = m → PR h0 pb B k m → Keeps h0 h → Acc encS 9 h0.next h o ((List.range (k + i)).map (shardB k s)) →
    ∃ h' o', iterK bot (d + 1) (ref05_Plan_Shards_l0b k0 D j) (some ⟨pb, 0, none⟩) l o ((k + i : Nat) : Int) h = j o' h' ∧ Keeps h0 h' ∧ Acc encS 9 h0.next h' o' (shardsL k m s)
  | 0, i, h, o, hi, p, kh, A => by
    obtain rfl : i = m := by omega
    refine ⟨h, o, ?_, kh, A⟩
    rw [iterK_s]; simp only [ref05_Plan_Shards_l0b]
    refine bnd rfl (bnd (ldI_at (p.keeps kh).blk rfl) (bnd rfl (bnd (ldI_at (p.keeps kh).blk rfl) ?_)))
    rw [w64 ((k : Int) + (i : Int)) (by omega)]
    exact ifn (by simp) rfl
  | d + 1, i, h, o, hi, p, kh, A => by
    have p1 := p.keeps kh
    have Rl : Row encS h l (piecesL k s) := R.keeps kh
    have hle : (k + i) * k + k ≤ (k + m) * k := by
      have := Nat.mul_le_mul_right k (show k + i + 1 ≤ k + m by omega); rw [Nat.succ_mul] at this; exact this
    have Rc := mat_row p1.mat p1.lb hle ((k + m) * k - (k + i) * k) (some 0)
    have mb := mix_bounds hk (by omega) s hs
    obtain ⟨h2, r2, k2⟩ := rmix_spec (k := k0) (by omega) D Rl Rc (by rw [piecesL_length]; omega) (by rw [rowC_length]; omega) (fun x hx => by have := mb x hx; omega) (by rw [piecesL_length]; omega) (by rw [rowC_length]; omega) (fun x hx => by have := mb x hx; omega)
    have kh2 := kh.trans k2
    have A2 := A.keeps k2
    have ex : (mixA (piecesL k s) (rowC k (k + i))).1 = shardB k s (k + i) := by unfold shardB; rw [if_neg (by omega)]
    obtain ⟨o3, h3, ra, A3, c3, _⟩ := A2.push (bytes := 16) encS_one (mixA (piecesL k s) (rowC k (k + i))).1 (by simp; omega) (by decide) kh2.nx
    have kh3 := beh_acc kh2 A2 c3
    have e1 : (List.range (k + i)).map (shardB k s) ++ [(mixA (piecesL k s) (rowC k (k + i))).1] = (List.range (k + (i + 1))).map (shardB k s) := by rw [ex, ← Nat.add_assoc, List.range_succ, List.map_append]; rfl
    rw [e1] at A3
    obtain ⟨h', o', r, k', A'⟩ := rshards_l0 hk0 D j bot hk hR s hs l hl R d (i + 1) h3 o3 (by omega) p kh3 A3
    refine ⟨h', o', ?_, k', A'⟩
    rw [iterK_s]; simp only [ref05_Plan_Shards_l0b]
    refine bnd rfl (bnd (ldI_at p1.blk rfl) (bnd rfl (bnd (ldI_at p1.blk rfl) ?_)))
    rw [w64 ((k : Int) + (m : Int)) (by omega)]
    refine ifp (by simp; omega) ?_
    refine bnd (rrow_spec k0 D p1 hk hR (by omega)) ?_
    refine bnd r2 (bnd rdS_one (bnd ra ?_))
    rw [w1 (by omega)]
    exact r
theorem rsplit_spec {k0 : Nat} (hk0 : 70000 ≤ k0) (D : CallF) {h : AHeap} {pb B k m : Nat} (p : PR h pb B k m) (hk : 0 < k) (hR : k + m ≤ 255) (s : ByteArray) (hs : s.size ≤ 65536) :
    ∃ h' o, ref05_Plan_Split k0 D (some ⟨pb, 0, none⟩) s h = some ((o, 0), h') ∧ Keeps h h' ∧ Acc encS 9 h.next h' o (shardsL k m s) := by
  simp only [ref05_Plan_Split]
  obtain ⟨h1, o1, r1, k1, A1⟩ := rpieces_spec hk0 D p hk (by omega) s hs
  let h2 := h1.new (.cells [] 9 true 0)
  have k2 : Keeps h1 h2 := Keeps.new _ _
  have R2 : Row encS h2 o1 (piecesL k s) := A1.row.keeps k2
  have hne : piecesL k s ≠ [] := by intro e; have := congrArg List.length e; rw [piecesL_length] at this; simp at this; omega
  let h3 := h2.new (outB encS 9 (piecesL k s))
  have k3 : Keeps h2 h3 := Keeps.new _ _
  have G := Grown.of (enc := encS) (e := 9) (h := h2) hne
  have p3 := p.keeps (k1.trans (k2.trans k3))
  have hol : o1.len = k := by rw [R2.1, piecesL_length]
  have rap : appendA 1 16 9 h2 (⟨some ⟨h1.next, 0, some 0⟩, 0, 0⟩ : Slc) ((piecesL k s).map encS) o1.len = some (⟨some ⟨h2.next, 0, some 2⟩, k, k⟩, h3) := by
    rw [hol]
    unfold appendA
    rw [if_neg (by show ¬ 0 + k ≤ 0; omega), if_pos (by show 2 * (0 + k) * 16 ≤ _ ∧ _; omega)]
    simp only [Nat.zero_mul, AHeap.rdL, Option.bind_some, List.nil_append, Nat.zero_add]
    rfl
  have hl3 : ∀ a, o1.a = some a → a.block < h2.next := fun a ha => Nat.lt_of_lt_of_le (A1.lt a ha).1 k2.nx
  have Gk : Grown encS 9 h3 h2.next ⟨some ⟨h2.next, 0, some 2⟩, k, k⟩ (piecesL k s) := by
    have e : (piecesL k s).length = k := piecesL_length k s
    rw [e] at G; exact G
  have Ak : Acc encS 9 h2.next h3 ⟨some ⟨h2.next, 0, some 2⟩, k, k⟩ ((List.range (k + 0)).map (shardB k s)) := by
    rw [Nat.add_zero, pieces_range]
    exact ⟨.inr ⟨h2.next, Gk⟩, fun a ha => by cases ha; exact ⟨by show h2.next < h2.next + 1; omega, Nat.le_refl _⟩⟩
  obtain ⟨bot1, e1⟩ := iterK_of (α := rs0T) (fun _ _ _ _ _ => none) (ref05_Plan_Shards_l0b k0 D fun (out5 : Slc) (h6 : AHeap) => some (out5, h6)) (show m + 1 ≤ k0 by omega)
  obtain ⟨h', o', r, k', A'⟩ := rshards_l0 hk0 D (fun (out5 : Slc) (h6 : AHeap) => some (out5, h6)) bot1 hk hR s hs o1 hl3 R2 m 0 h3 ⟨some ⟨h2.next, 0, some 2⟩, k, k⟩ (by omega) (p.keeps (k1.trans k2)) k3 Ak
  refine ⟨h', o', ?_, k1.trans (k2.trans k'), ⟨A'.st, fun a ha => ⟨(A'.lt a ha).1, Nat.le_trans (k1.trans k2).nx (A'.lt a ha).2⟩⟩⟩
  refine ifn (by simp; omega) ?_
  refine bnd (v := (o', h')) ?_ rfl
  simp only [ref05_Plan_Shards]
  refine bnd r1 (bnd R2.rdS (bnd rap ?_))
  refine jn ?_
  refine bnd rfl (bnd (ldI_at p3.blk rfl) ?_)
  unfold ref05_Plan_Shards_l0
  rw [e1]
  exact r
theorem rsplit_no {k0 : Nat} (D : CallF) (p : Option Addr) (s : ByteArray) (h : AHeap) (hs : s.size > 65536) : ref05_Plan_Split k0 D p s h = some ((⟨none, 0, 0⟩, 2), h) := by
  simp only [ref05_Plan_Split]
  exact ifp (by simp; omega) rfl
theorem split_no {k0 : Nat} {h : AHeap} {pb f2 B sb fb k m : Nat} (p : PL h pb f2 B sb fb k m) (hk : 0 < k) (hk2 : k ≤ 255) (s : ByteArray) (hs : s.size > 65536) : stripe_Plan_Split k0 (DD k0) (some ⟨pb, 0, none⟩) s h = some ((⟨none, 0, 0⟩, 2), h) := by
  simp only [stripe_Plan_Split]
  have re := each_spec k0 (DD k0) p hk hk2 (s.size : Int)
  unfold eachA at re
  rw [if_pos (by omega)] at re
  exact bnd re (ifp (by simp) rfl)
end Gz
namespace Gz
open Go Gx Go.Proofs
def Tru {R : Type} (x : Option (R × AHeap)) (v : R) : Prop := ∃ h', x = some (v, h')
theorem Tru.bnd {R α : Type} {v : R} {x : Option α} {a : α} {f : α → Option (R × AHeap)} (h : x = some a) (k : Tru (f a) v) : Tru (x.bind f) v := by rw [h]; exact k
theorem Tru.jn {R α : Type} {v : R} {J : α} {b : α → Option (R × AHeap)} (k : ∀ j, j = J → Tru (b j) v) : Tru (joinK J b) v := k J rfl
theorem Tru.ifp {R : Type} {v : R} {c : Prop} [Decidable c] {a b : Option (R × AHeap)} (h : c) (k : Tru a v) : Tru (if c then a else b) v := by rw [if_pos h]; exact k
theorem Tru.ifn {R : Type} {v : R} {c : Prop} [Decidable c] {a b : Option (R × AHeap)} (h : ¬ c) (k : Tru b v) : Tru (if c then a else b) v := by rw [if_neg h]; exact k
theorem Tru.of {R : Type} {v : R} {h : AHeap} : Tru (some (v, h)) v := ⟨h, rfl⟩
theorem shards_get {k m i : Nat} (s : ByteArray) (hi : i < k + m) : (shardsL k m s)[i]? = some (shardB k s i) := by simp [shardsL, hi]
theorem shardsL_length (k m : Nat) (s : ByteArray) : (shardsL k m s).length = k + m := by simp [shardsL]
theorem shards_row {h : AHeap} {ob k m : Nat} {s : ByteArray} (hb : h.get ob = some (outB encS 9 (shardsL k m s))) (hl : ob < h.next) : Row encS h (⟨some ⟨ob, 0, some 0⟩, k + m, k + m⟩ : Slc) (shardsL k m s) := by
  rw [show shardsL k m s = filT (shardB k s) (k + m) (k + m) from filT_all.symm] at hb
  have := row_fill (cap := k + m) hb hl (Nat.le_refl _)
  exact this
def spo : ByteArray := ⟨#[115, 112, 111, 105, 108, 116]⟩
abbrev spT := Slc → Int → AHeap → Option ((Unit) × AHeap)
theorem spoil_l0 (K : Nat) (D : CallF) (bot : spT) {ob n cap : Nat} {sp : Option Nat} (hn : n < 9223372036854775807) : ∀ (d i : Nat) (h : AHeap) (l : List ByteArray), i + d = n → l.length = n → h.get ob = some (outB encS 9 l) →
    Tru (iterK bot (d + 1) (book_SpoilTexts_l0b K D) (⟨some ⟨ob, 0, sp⟩, n, cap⟩ : Slc) (i : Int) h) ()
  | 0, i, h, l, hi, hl, hb => by
    obtain rfl : i = n := by omega
    rw [iterK_s]; simp only [book_SpoilTexts_l0b]
    exact Tru.ifn (by simp) Tru.of
  | d + 1, i, h, l, hi, hl, hb => by
    rw [iterK_s]; simp only [book_SpoilTexts_l0b]
    refine Tru.ifp (by simp; omega) ?_
    refine Tru.bnd (idxL_out (by omega)) ?_
    have hst : st1 (⟨ob, i, none⟩ : Addr) (.string spo) h = some (h.set ob (outB encS 9 (l.set i spo))) := by
      have := st1_of (sp := none) (o := i) (v := .string spo) hb (by rw [List.length_map]; omega) rfl
      rw [this]; congr 3
      rw [List.map_set]; rfl
    refine Tru.bnd hst ?_
    rw [w1 (by omega)]
    exact spoil_l0 K D bot hn d (i + 1) _ (l.set i spo) (by omega) (by simpa using hl) (set_get _ _ _)
theorem spoil_spec {k0 : Nat} (D : CallF) {h : AHeap} {ob n cap : Nat} {sp : Option Nat} {l : List ByteArray} (hb : h.get ob = some (outB encS 9 l)) (hl : l.length = n) (hn : n < 9223372036854775807) (hk : n < k0) : Tru (book_SpoilTexts k0 D (⟨some ⟨ob, 0, sp⟩, n, cap⟩ : Slc) h) () := by
  simp only [book_SpoilTexts]
  unfold book_SpoilTexts_l0
  obtain ⟨bot1, e1⟩ := iterK_of (α := spT) (fun _ _ _ => none) (book_SpoilTexts_l0b k0 D) (show n + 1 ≤ k0 by omega)
  rw [e1]
  exact spoil_l0 k0 D bot1 hn n 0 h l (by omega) hl hb
theorem spoil_nil {k0 : Nat} (hk : 1 ≤ k0) (D : CallF) (h : AHeap) : Tru (book_SpoilTexts k0 D (⟨none, 0, 0⟩ : Slc) h) () := by
  simp only [book_SpoilTexts]
  unfold book_SpoilTexts_l0
  obtain ⟨bot1, e1⟩ := iterK_of (α := spT) (fun _ _ _ => none) (book_SpoilTexts_l0b k0 D) hk
  rw [e1, iterK_s]; simp only [book_SpoilTexts_l0b]
  exact Tru.ifn (by simp) Tru.of
end Gz
namespace Gz
open Go Gx Go.Proofs
abbrev Prt := Int × ByteArray
def enc2 (x : Prt) : List Value := [.int .i64 x.1, .string x.2]
structure Row2 (h : AHeap) (s : Slc) (xs : List Prt) : Prop where
  len : s.len = xs.length
  at' : ∀ (i : Nat) (x : Prt), xs[i]? = some x → ∃ a c e r fz, s.a = some a ∧ a.block < h.next ∧ h.get a.block = some (.cells c e r fz) ∧ c[a.off + i * 2]? = some (.int .i64 x.1) ∧ c[a.off + i * 2 + 1]? = some (.string x.2)
theorem Row2.nil (h : AHeap) (a : Option Addr) (cap : Nat) : Row2 h ⟨a, 0, cap⟩ [] := ⟨rfl, fun i x hx => by simp at hx⟩
theorem Row2.chg {S : Nat → Prop} {h h' : AHeap} {s : Slc} {xs : List Prt} (R : Row2 h s xs) (c : Chg S h h') (hs : ∀ a, s.a = some a → ¬ S a.block) : Row2 h' s xs :=
  ⟨R.len, fun i x hx => by
    obtain ⟨a, cs, e, r, fz, h1, h2, h3, h4⟩ := R.at' i x hx
    exact ⟨a, cs, e, r, fz, h1, Nat.lt_of_lt_of_le h2 c.nx, (c.oth _ h2 (hs a h1)).trans h3, h4⟩⟩
theorem Row2.keeps {h h' : AHeap} {s : Slc} {xs : List Prt} (R : Row2 h s xs) (c : Keeps h h') : Row2 h' s xs := R.chg c fun _ _ f => f
theorem drop_two {c : List Value} {o : Nat} {u v : Value} (h1 : c[o]? = some u) (h2 : c[o + 1]? = some v) : (c.drop o).take 2 = [u, v] := by
  rw [dropc h1, dropc h2]; rfl
theorem Row2.ld {h : AHeap} {s : Slc} {xs : List Prt} (R : Row2 h s xs) {i : Nat} {x : Prt} (hx : xs[i]? = some x) : ∃ q, idxL 2 s (i : Int) = some q ∧ ldA 2 q h = some (enc2 x) := by
  obtain ⟨a, c, e, r, fz, h1, h2, h3, h4, h5⟩ := R.at' i x hx
  have hi : i < s.len := by rw [R.len]; exact (List.getElem?_eq_some_iff.1 hx).1
  refine ⟨⟨a.block, a.off + i * 2, none⟩, ?_, ?_⟩
  · simp only [idxL, h1]
    rw [if_pos (by omega), Int.toNat_natCast]
  · have hlen : a.off + i * 2 + 1 < c.length := (List.getElem?_eq_some_iff.1 h5).1
    simp only [ldA, AHeap.rdL, h3]
    rw [if_pos (by omega), drop_two h4 h5]; rfl
def flat2 (xs : List Prt) : List Value := xs.flatMap enc2
theorem flat2_length (xs : List Prt) : (flat2 xs).length = xs.length * 2 := by
  induction xs with
  | nil => rfl
  | cons x xs ih => simp only [flat2, List.flatMap_cons, List.length_append] at ih ⊢; rw [ih]; simp [enc2]; omega
theorem flat2_append (xs ys : List Prt) : flat2 (xs ++ ys) = flat2 xs ++ flat2 ys := by simp [flat2]
theorem flat2_get : ∀ {xs : List Prt} {i : Nat} {x : Prt}, xs[i]? = some x → (flat2 xs)[i * 2]? = some (.int .i64 x.1) ∧ (flat2 xs)[i * 2 + 1]? = some (.string x.2)
  | [], i, x, h => by simp at h
  | y :: xs, 0, x, h => by simp at h; subst h; exact ⟨rfl, rfl⟩
  | y :: xs, i + 1, x, h => by
    have := flat2_get (xs := xs) (i := i) (x := x) (by simpa using h)
    have e : flat2 (y :: xs) = .int .i64 y.1 :: .string y.2 :: flat2 xs := rfl
    rw [e, show (i + 1) * 2 = i * 2 + 1 + 1 by omega]
    simpa using this
theorem row2_blk {h : AHeap} {b n cap : Nat} {sp : Option Nat} {xs : List Prt} {e : TypeId} {r : Bool} {fz : Nat} (hb : h.get b = some (.cells (flat2 xs) e r fz)) (hl : b < h.next) (hn : n = xs.length) : Row2 h ⟨some ⟨b, 0, sp⟩, n, cap⟩ xs :=
  ⟨hn, fun i x hx => by
    obtain ⟨h1, h2⟩ := flat2_get hx
    exact ⟨_, _, _, _, _, rfl, hl, hb, by rw [Nat.zero_add]; exact h1, by rw [Nat.zero_add]; exact h2⟩⟩
structure Acc2 (base : Nat) (h : AHeap) (s : Slc) (xs : List Prt) : Prop where
  st : (s = ⟨none, 0, 0⟩ ∧ xs = []) ∨ ∃ b, s = ⟨some ⟨b, 0, some 3⟩, xs.length, xs.length⟩ ∧ h.get b = some (.cells (flat2 xs) 61 true 0) ∧ xs ≠ []
  lt : ∀ a, s.a = some a → a.block < h.next ∧ base ≤ a.block
theorem Acc2.nil (base : Nat) (h : AHeap) : Acc2 base h ⟨none, 0, 0⟩ [] := ⟨.inl ⟨rfl, rfl⟩, fun a ha => by cases ha⟩
theorem Acc2.chg {S : Nat → Prop} {base : Nat} {h h' : AHeap} {s : Slc} {xs : List Prt} (A : Acc2 base h s xs) (c : Chg S h h') (hs : ∀ a, s.a = some a → ¬ S a.block) : Acc2 base h' s xs := by
  refine ⟨A.st.imp id ?_, fun a ha => ⟨Nat.lt_of_lt_of_le (A.lt a ha).1 c.nx, (A.lt a ha).2⟩⟩
  rintro ⟨b, h1, h2, h3⟩
  have hb := A.lt ⟨b, 0, some 3⟩ (by rw [h1])
  exact ⟨b, h1, (c.oth b hb.1 (hs ⟨b, 0, some 3⟩ (by rw [h1]))).trans h2, h3⟩
theorem Acc2.keeps {base : Nat} {h h' : AHeap} {s : Slc} {xs : List Prt} (A : Acc2 base h s xs) (c : Keeps h h') : Acc2 base h' s xs := A.chg c fun _ _ f => f
theorem Acc2.row {base : Nat} {h : AHeap} {s : Slc} {xs : List Prt} (A : Acc2 base h s xs) : Row2 h s xs := by
  rcases A.st with ⟨rfl, rfl⟩ | ⟨b, rfl, h2, h3⟩
  · exact Row2.nil _ _ _
  · exact row2_blk h2 (A.lt ⟨b, 0, some 3⟩ rfl).1 rfl
theorem Acc2.len {base : Nat} {h : AHeap} {s : Slc} {xs : List Prt} (A : Acc2 base h s xs) : s.len = xs.length := A.row.len
theorem Acc2.push {base : Nat} {h : AHeap} {s : Slc} {xs : List Prt} (A : Acc2 base h s xs) (x : Prt) (hs : xs.length ≤ 1000000) (hbase : base ≤ h.next) :
    ∃ s' h', appendA 2 24 61 h s (enc2 x) 1 = some (s', h') ∧ Acc2 base h' s' (xs ++ [x]) ∧ Chg (ofS s) h h' := by
  rcases A.st with ⟨rfl, rfl⟩ | ⟨b, rfl, h2, h3⟩
  · refine ⟨⟨some ⟨h.next, 0, some 3⟩, 1, 1⟩, h.new (.cells (enc2 x) 61 true 0), ?_, ⟨.inr ⟨h.next, rfl, by simp [flat2], by simp⟩, ?_⟩, (Keeps.new h _).wk fun _ _ f => f.elim⟩
    · simp only [appendA]
      rw [if_neg (by omega), if_pos (by omega)]
    · intro a ha; cases ha; simp; omega
  · have hb := A.lt ⟨b, 0, some 3⟩ rfl
    have hl := flat2_length xs
    have e : flat2 xs ++ enc2 x = flat2 (xs ++ [x]) := by rw [flat2_append]; simp [flat2]
    refine ⟨⟨some ⟨h.next, 0, some 3⟩, xs.length + 1, xs.length + 1⟩, (h.kill b).new (.cells (flat2 (xs ++ [x])) 61 true 0), ?_, ⟨.inr ⟨h.next, by simp, by simp, by simp⟩, ?_⟩, ?_⟩
    · have hx : 0 < xs.length := List.length_pos_iff.2 h3
      simp only [appendA]
      rw [if_neg (by omega), if_pos (by omega)]
      simp only [h2]
      rw [if_pos ⟨by omega, trivial, by omega, by omega, trivial, trivial, rfl⟩, ← hl, List.take_length, e]
    · intro a ha; cases ha; simp; omega
    · exact Chg.kill_new (.inr ⟨⟨b, 0, some 3⟩, rfl, rfl⟩)
end Gz
namespace Gz
open Go Gx Go.Proofs
def idxs (out : List Prt) : List Int := out.map (·.1)
end Gz
namespace Gz
open Go Gx Go.Proofs
section
variable {k0 : Nat} {H0 : AHeap} {B oa ol R C : Nat} {s : Slc} {sp : Option Nat} {g : Nat → Nat}
structure SQ (H0 : AHeap) (B oa ol R C : Nat) (s : Slc) (sp : Option Nat) (g : Nat → Nat) (h : AHeap) : Prop where
  a : Mx h B (R * C) g
  ca : h.get oa = some (.cells (mcell R C s) 97 true 0)
  cl : h.get ol = some (.cells (mcell R C (whole B (R * C) sp)) 97 true 0)
  la : oa < h.next
  ll : ol < h.next
  ch : Chg (fun x => x = B) H0 h
theorem SQ.keeps {h h' : AHeap} (S : SQ H0 B oa ol R C s sp g h) (k : Keeps h h') : SQ H0 B oa ol R C s sp g h' :=
  ⟨S.a.keeps k, by rw [k.oth _ S.la (fun f => f)]; exact S.ca, by rw [k.oth _ S.ll (fun f => f)]; exact S.cl, Nat.lt_of_lt_of_le S.la k.nx, Nat.lt_of_lt_of_le S.ll k.nx, S.ch.trans (Chg.keeps k)⟩
theorem SQ.op {h h' : AHeap} {g' : Nat → Nat} (S : SQ H0 B oa ol R C s sp g h) (n1 : oa ≠ B) (n2 : ol ≠ B) (m : Mx h' B (R * C) g') (k : Chg (· = B) h h') : SQ H0 B oa ol R C s sp g' h' :=
  ⟨m, by rw [k.oth _ S.la n1]; exact S.ca, by rw [k.oth _ S.ll n2]; exact S.cl, Nat.lt_of_lt_of_le S.la k.nx, Nat.lt_of_lt_of_le S.ll k.nx, S.ch.trans k⟩
theorem SQ.congr {h : AHeap} {g' : Nat → Nat} (S : SQ H0 B oa ol R C s sp g h) (e : ∀ t, t < R * C → g t = g' t) : SQ H0 B oa ol R C s sp g' h := ⟨S.a.congr e, S.ca, S.cl, S.la, S.ll, S.ch⟩
end
end Gz
namespace Gz
open Go Gx Go.Proofs
structure LI (n m sb fb : Nat) (r1 c1 r2 c2 : Int) (s1 s2 rs sa sq so : Slc) (xs ys rows : List Int) (g : AHeap) : Prop where
  rp : Row encI g s1 xs
  rq : Row encI g s2 ys
  rr : Row encI g rs rows
  ia : InM g sa xs
  iq : InM g sq ys
  io : Row encI g so rows
  d1 : g.get n = some (.cells (mcell r1 c1 s1) 97 true 0)
  d2 : g.get (n + 1) = some (.cells (mcell r2 c2 s2) 97 true 0)
  d3 : g.get m = some (.cells (mcell r1 c1 sa) 84 true 0)
  d4 : g.get (m + 1) = some (.cells (mcell r2 c2 sq) 84 true 0)
  ln : n + 1 < g.next
  lm : m + 1 < g.next
structure LN (n m fb : Nat) (s1 s2 rs sa sq so : Slc) : Prop where
  n0 : n ≠ fb
  n1 : n + 1 ≠ fb
  m0 : m ≠ fb
  m1 : m + 1 ≠ fb
  a1 : ∀ a, s1.a = some a → ¬ a.block = fb
  a2 : ∀ a, s2.a = some a → ¬ a.block = fb
  a3 : ∀ a, rs.a = some a → ¬ a.block = fb
  a4 : ∀ a, sa.a = some a → ¬ a.block = fb
  a5 : ∀ a, sq.a = some a → ¬ a.block = fb
  a6 : ∀ a, so.a = some a → ¬ a.block = fb
theorem LI.chg {n m sb fb : Nat} {r1 c1 r2 c2 : Int} {s1 s2 rs sa sq so : Slc} {xs ys rows : List Int} {g g' : AHeap} (N : LN n m fb s1 s2 rs sa sq so) (L : LI n m sb fb r1 c1 r2 c2 s1 s2 rs sa sq so xs ys rows g) (c : Chg (· = fb) g g') :
    LI n m sb fb r1 c1 r2 c2 s1 s2 rs sa sq so xs ys rows g' := by
  have ln := L.ln
  have lm := L.lm
  have nx := c.nx
  exact ⟨L.rp.chg c N.a1, L.rq.chg c N.a2, L.rr.chg c N.a3, L.ia.chg c N.a4, L.iq.chg c N.a5, L.io.chg c N.a6, by rw [c.oth _ (by omega) N.n0]; exact L.d1, by rw [c.oth _ (by omega) N.n1]; exact L.d2,
    by rw [c.oth _ (by omega) N.m0]; exact L.d3, by rw [c.oth _ (by omega) N.m1]; exact L.d4, by omega, by omega⟩
end Gz
namespace Gz
open Go Gx Go.Proofs
structure Fe where
  v : Nat
  lt : v < 256
namespace Fe
theorem ext {a b : Fe} (h : a.v = b.v) : a = b := by cases a; cases b; cases h; rfl
def add (a b : Fe) : Fe := ⟨a.v ^^^ b.v, xor_lt a.lt b.lt⟩
def mul (a b : Fe) : Fe := ⟨mulT a.v b.v, mulT_lt _ _⟩
def inv (a : Fe) : Fe := ⟨divT 1 a.v, divT_lt⟩
instance : Add Fe := ⟨add⟩
instance : Mul Fe := ⟨mul⟩
instance : OfNat Fe 0 := ⟨⟨0, by omega⟩⟩
instance : OfNat Fe 1 := ⟨⟨1, by omega⟩⟩
theorem add_v (a b : Fe) : (a + b).v = a.v ^^^ b.v := rfl
theorem mul_v (a b : Fe) : (a * b).v = mulT a.v b.v := rfl
theorem add_comm (a b : Fe) : a + b = b + a := ext (Nat.xor_comm _ _)
theorem add_assoc (a b c : Fe) : a + b + c = a + (b + c) := ext (Nat.xor_assoc _ _ _)
theorem add_self (a : Fe) : a + a = 0 := ext (Nat.xor_self _)
theorem add_zero (a : Fe) : a + 0 = a := ext (Nat.xor_zero _)
theorem zero_add (a : Fe) : 0 + a = a := ext (Nat.zero_xor _)
theorem mul_comm (a b : Fe) : a * b = b * a := ext (mulT_comm _ _)
theorem mul_assoc (a b c : Fe) : a * b * c = a * (b * c) := ext mulT_assoc
theorem mul_add (a b c : Fe) : a * (b + c) = a * b + a * c := ext (mulT_xor b.lt c.lt)
theorem add_mul (a b c : Fe) : (a + b) * c = a * c + b * c := by rw [mul_comm, mul_add, mul_comm c, mul_comm c]
theorem zero_mul (a : Fe) : 0 * a = 0 := ext (mulT_zero a.v)
theorem mul_zero (a : Fe) : a * 0 = 0 := by rw [mul_comm, zero_mul]
theorem mul_one (a : Fe) : a * 1 = a := ext (mulT_one a.lt)
theorem one_mul (a : Fe) : 1 * a = a := by rw [mul_comm, mul_one]
theorem ne_v {a : Fe} (h : a ≠ 0) : a.v ≠ 0 := fun e => h (ext e)
theorem inv_mul {a : Fe} (h : a ≠ 0) : inv a * a = 1 := ext (mul_div (x := 1) (by omega) a.lt (ne_v h))
theorem one_ne : (1 : Fe) ≠ 0 := fun e => absurd (congrArg Fe.v e) (by decide)
instance : Std.Associative (α := Fe) (· + ·) := ⟨add_assoc⟩
instance : Std.Commutative (α := Fe) (· + ·) := ⟨add_comm⟩
instance : Std.Associative (α := Fe) (· * ·) := ⟨mul_assoc⟩
instance : Std.Commutative (α := Fe) (· * ·) := ⟨mul_comm⟩
def of (n : Nat) : Fe := ⟨n % 256, Nat.mod_lt _ (by omega)⟩
theorem of_v {n : Nat} (h : n < 256) : (of n).v = n := Nat.mod_eq_of_lt h
theorem of_xor {a b : Nat} (ha : a < 256) (hb : b < 256) : of (a ^^^ b) = of a + of b := ext (by rw [add_v, of_v ha, of_v hb, of_v (xor_lt ha hb)])
theorem of_mul {a b : Nat} (ha : a < 256) (hb : b < 256) : of (mulT a b) = of a * of b := ext (by rw [mul_v, of_v ha, of_v hb, of_v (mulT_lt _ _)])
theorem of_zero : of 0 = 0 := rfl
theorem of_one : of 1 = 1 := rfl
theorem of_inj {a b : Nat} (ha : a < 256) (hb : b < 256) (h : of a = of b) : a = b := by
  have := congrArg Fe.v h
  rwa [of_v ha, of_v hb] at this
end Fe
open Fe
def sm : Nat → (Nat → Fe) → Fe
  | 0, _ => 0
  | n + 1, f => sm n f + f n
theorem sm_s (n : Nat) (f : Nat → Fe) : sm (n + 1) f = sm n f + f n := rfl
theorem sm_congr : ∀ {n : Nat} {f g : Nat → Fe}, (∀ i, i < n → f i = g i) → sm n f = sm n g
  | 0, _, _, _ => rfl
  | n + 1, f, g, h => by
    unfold sm
    rw [sm_congr fun i hi => h i (by omega), h n (by omega)]
theorem sm_zero : ∀ {n : Nat} {f : Nat → Fe}, (∀ i, i < n → f i = 0) → sm n f = 0
  | 0, _, _ => rfl
  | n + 1, f, h => by
    unfold sm
    rw [sm_zero fun i hi => h i (by omega), h n (by omega), add_zero]
theorem sm_add : ∀ (n : Nat) (f g : Nat → Fe), sm n (fun i => f i + g i) = sm n f + sm n g
  | 0, _, _ => (add_zero 0).symm
  | n + 1, f, g => by
    rw [sm_s, sm_s, sm_s, sm_add n f g]
    show sm n f + sm n g + (f n + g n) = sm n f + f n + (sm n g + g n)
    ac_rfl
theorem sm_mul : ∀ (n : Nat) (c : Fe) (f : Nat → Fe), sm n (fun i => c * f i) = c * sm n f
  | 0, c, _ => (mul_zero c).symm
  | n + 1, c, f => by
    unfold sm
    rw [sm_mul n c f, mul_add]
theorem sm_mul' (n : Nat) (c : Fe) (f : Nat → Fe) : sm n (fun i => f i * c) = sm n f * c := by
  rw [mul_comm _ c, ← sm_mul]
  exact sm_congr fun i _ => mul_comm _ _
theorem sm_swap : ∀ (n m : Nat) (f : Nat → Nat → Fe), sm n (fun i => sm m fun j => f i j) = sm m (fun j => sm n fun i => f i j)
  | 0, m, f => (sm_zero fun _ _ => rfl).symm
  | n + 1, m, f => by
    show sm n (fun i => sm m fun j => f i j) + sm m (fun j => f n j) = sm m (fun j => sm n (fun i => f i j) + f n j)
    rw [sm_swap n m f, sm_add]
def dl (i j : Nat) : Fe := if i = j then 1 else 0
theorem sm_dl : ∀ {n i : Nat} (f : Nat → Fe), i < n → sm n (fun k => dl i k * f k) = f i
  | n + 1, i, f, h => by
    rw [sm_s]
    by_cases e : i = n
    · subst e
      rw [sm_zero fun k hk => by unfold dl; rw [if_neg (by omega), zero_mul], zero_add]
      show dl i i * f i = f i
      unfold dl; rw [if_pos rfl, one_mul]
    · rw [sm_dl f (by omega)]
      show f i + dl i n * f n = f i
      unfold dl; rw [if_neg e, zero_mul, add_zero]
theorem sm_dl' {n i : Nat} (f : Nat → Fe) (h : i < n) : sm n (fun k => f k * dl k i) = f i := by
  rw [← sm_dl f h]
  exact sm_congr fun k _ => by
    rw [mul_comm]
    unfold dl
    by_cases e : k = i
    · rw [if_pos e, if_pos e.symm]
    · rw [if_neg e, if_neg fun h => e h.symm]
abbrev Mt := Nat → Nat → Fe
def mm (n : Nat) (A B : Mt) : Mt := fun i j => sm n fun k => A i k * B k j
def Eqm (r c : Nat) (A B : Mt) : Prop := ∀ i j, i < r → j < c → A i j = B i j
theorem Eqm.refl (r c : Nat) (A : Mt) : Eqm r c A A := fun _ _ _ _ => rfl
theorem Eqm.symm {r c : Nat} {A B : Mt} (h : Eqm r c A B) : Eqm r c B A := fun i j hi hj => (h i j hi hj).symm
theorem Eqm.trans {r c : Nat} {A B D : Mt} (h : Eqm r c A B) (k : Eqm r c B D) : Eqm r c A D := fun i j hi hj => (h i j hi hj).trans (k i j hi hj)
theorem mm_assoc (n m : Nat) (A B D : Mt) : mm m (mm n A B) D = mm n A (mm m B D) := by
  funext i j
  show sm m (fun k => sm n (fun l => A i l * B l k) * D k j) = sm n fun l => A i l * sm m fun k => B l k * D k j
  rw [sm_congr (g := fun k => sm n fun l => A i l * (B l k * D k j)) fun k _ => by rw [← sm_mul']; exact sm_congr fun l _ => mul_assoc _ _ _, sm_swap]
  exact sm_congr fun l _ => sm_mul _ _ _
theorem mm_congr {r n c : Nat} {A A' B B' : Mt} (h : Eqm r n A A') (k : Eqm n c B B') : Eqm r c (mm n A B) (mm n A' B') := fun i j hi hj => sm_congr fun l hl => by rw [h i l hi hl, k l j hl hj]
theorem mm_dl {r n c : Nat} (h : r ≤ n) (A : Mt) : Eqm r c (mm n dl A) A := fun i j hi _ => sm_dl (fun k => A k j) (by omega)
theorem dl_mm {r n c : Nat} (h : c ≤ n) (A : Mt) : Eqm r c (mm n A dl) A := fun i j _ hj => sm_dl' (fun k => A i k) (by omega)
def tr (A : Mt) : Mt := fun i j => A j i
theorem tr_mm (n : Nat) (A B : Mt) : tr (mm n A B) = mm n (tr B) (tr A) := by
  funext i j
  exact sm_congr fun k _ => mul_comm _ _
structure Inv (n : Nat) (T T' : Mt) : Prop where
  l : Eqm n n (mm n T T') dl
  r : Eqm n n (mm n T' T) dl
theorem Inv.mul {n : Nat} {S S' T T' : Mt} (a : Inv n S S') (b : Inv n T T') : Inv n (mm n S T) (mm n T' S') := by
  constructor
  · have : mm n (mm n S T) (mm n T' S') = mm n S (mm n (mm n T T') S') := by rw [mm_assoc, mm_assoc]
    rw [this]
    exact (mm_congr (Eqm.refl n n S) ((mm_congr b.l (Eqm.refl n n S')).trans (mm_dl (Nat.le_refl n) S'))).trans a.l
  · have : mm n (mm n T' S') (mm n S T) = mm n T' (mm n (mm n S' S) T) := by rw [mm_assoc, mm_assoc]
    rw [this]
    exact (mm_congr (Eqm.refl n n T') ((mm_congr a.r (Eqm.refl n n T)).trans (mm_dl (Nat.le_refl n) T))).trans b.r
theorem Inv.one (n : Nat) : Inv n dl dl := ⟨mm_dl (Nat.le_refl n) dl, mm_dl (Nat.le_refl n) dl⟩
def swT (l r : Nat) : Mt := fun i k => dl (if i = l then r else if i = r then l else i) k
theorem sw_mm {n l r : Nat} (hl : l < n) (hr : r < n) (A : Mt) (i j : Nat) (hi : i < n) : mm n (swT l r) A i j = A (if i = l then r else if i = r then l else i) j := by
  refine sm_dl (fun k => A k j) ?_
  split
  · exact hr
  · split
    · exact hl
    · exact hi
theorem sw_inv {n l r : Nat} (hl : l < n) (hr : r < n) : Inv n (swT l r) (swT l r) := by
  have : Eqm n n (mm n (swT l r) (swT l r)) dl := fun i j hi _ => by
    rw [sw_mm hl hr _ i j hi]
    unfold swT
    by_cases e : i = l
    · subst e
      rw [if_pos rfl]
      by_cases e2 : r = i
      · subst e2; rw [if_pos rfl]
      · rw [if_neg e2, if_pos rfl]
    · rw [if_neg e]
      by_cases e2 : i = r
      · subst e2; rw [if_pos rfl, if_pos rfl]
      · rw [if_neg e2, if_neg e, if_neg e2]
  exact ⟨this, this⟩
def scT (r : Nat) (c : Fe) : Mt := fun i k => (if i = r then c else 1) * dl i k
theorem sc_mm {n r : Nat} {c : Fe} (A : Mt) (i j : Nat) (hi : i < n) : mm n (scT r c) A i j = (if i = r then c else 1) * A i j := by
  unfold mm scT
  rw [sm_congr (g := fun k => (if i = r then c else 1) * (dl i k * A k j)) fun k _ => mul_assoc _ _ _, sm_mul, sm_dl (fun k => A k j) hi]
theorem sc_inv {n r : Nat} {c c' : Fe} (h : c * c' = 1) : Inv n (scT r c) (scT r c') := by
  have go : ∀ {c c' : Fe}, c * c' = 1 → Eqm n n (mm n (scT r c) (scT r c')) dl := fun {c c'} h i j hi _ => by
    rw [sc_mm _ i j hi]
    unfold scT
    rw [← mul_assoc]
    by_cases e : i = r
    · rw [if_pos e, if_pos e, h, one_mul]
    · rw [if_neg e, if_neg e, one_mul, one_mul]
  exact ⟨go h, go (by rw [mul_comm]; exact h)⟩
def elT (r : Nat) (m : Nat → Fe) : Mt := fun i k => dl i k + (if i = r then 0 else m i) * dl r k
theorem el_mm {n r : Nat} (hr : r < n) {m : Nat → Fe} (A : Mt) (i j : Nat) (hi : i < n) : mm n (elT r m) A i j = A i j + (if i = r then 0 else m i) * A r j := by
  unfold mm elT
  rw [sm_congr (g := fun k => dl i k * A k j + (if i = r then 0 else m i) * (dl r k * A k j)) fun k _ => by rw [add_mul, mul_assoc], sm_add, sm_mul, sm_dl (fun k => A k j) hi, sm_dl (fun k => A k j) hr]
theorem el_inv {n r : Nat} (hr : r < n) (m : Nat → Fe) : Inv n (elT r m) (elT r m) := by
  have : Eqm n n (mm n (elT r m) (elT r m)) dl := fun i j hi _ => by
    rw [el_mm hr _ i j hi]
    unfold elT
    by_cases e : i = r
    · subst e; simp only [if_true, zero_mul, add_zero]
    · simp only [if_neg e, if_true, zero_mul, add_zero]
      rw [add_assoc, add_self, add_zero]
  exact ⟨this, this⟩
end Gz
namespace Gz
open Go Gx Go.Proofs Fe
def El (N : Nat) (g : Nat → Nat) : Prop := ∀ t, t < N → g t < 256
def Vw (C : Nat) (g : Nat → Nat) : Mt := fun i j => of (g (i * C + j))
def sg (l r i : Nat) : Nat := if i = l then r else if i = r then l else i
theorem pos_lt {R C i j : Nat} (hi : i < R) (hj : j < C) : i * C + j < R * C := by have := le_row (c := C) hi; omega
theorem sg_lt {R l r i : Nat} (hl : l < R) (hr : r < R) (hi : i < R) : sg l r i < R := by
  unfold sg
  split
  · exact hr
  · split
    · exact hl
    · exact hi
section
variable {R C C2 l r jj : Nat} {g u : Nat → Nat}
theorem Vw_swap {i j : Nat} (hj : j < C) : Vw C (swapR C l r g) i j = Vw C g (sg l r i) j := by
  unfold Vw swapR sg
  rw [pos_div hj, pos_mod hj]
  by_cases e : i = l
  · rw [if_pos e, if_pos e]
  · rw [if_neg e, if_neg e]
    by_cases e2 : i = r
    · rw [if_pos e2, if_pos e2]
    · rw [if_neg e2, if_neg e2]
theorem swap_El (hl : l < R) (hr : r < R) (hC : 0 < C) (h : El (R * C) g) : El (R * C) (swapR C l r g) := fun t ht => by
  have hm := Nat.mod_lt t hC
  unfold swapR
  split
  · exact h _ (pos_lt hr hm)
  · split
    · exact h _ (pos_lt hl hm)
    · exact h t ht
theorem Vw_div {b i j : Nat} (hb : b < 256) (b0 : b ≠ 0) (h : El (R * C) g) (hi : i < R) (hj : j < C) : Vw C (divR C r b g) i j = (if i = r then Fe.inv (of b) else 1) * Vw C g i j := by
  have hx := h _ (pos_lt hi hj)
  unfold Vw divR
  rw [pos_div hj]
  by_cases e : i = r
  · rw [if_pos e, if_pos e, ← div_scl hx hb b0, of_mul hx divT_lt, mul_comm]
    congr 1
    exact Fe.ext (by rw [of_v divT_lt]; show divT 1 b = divT 1 (of b).v; rw [of_v hb])
  · rw [if_neg e, if_neg e, one_mul]
theorem Vw_elim {i j : Nat} (h : El (R * C) g) (hr : r < R) (hjj : jj < C) (hi : i < R) (hj : j < C) : Vw C (elimG C r jj g) i j = Vw C g i j + (if i = r then 0 else Vw C g i jj) * Vw C g r j := by
  unfold Vw elimG
  rw [pos_div hj, pos_mod hj]
  by_cases e : i = r
  · rw [if_pos e, if_pos e, zero_mul, add_zero]
  · rw [if_neg e, if_neg e, of_xor (h _ (pos_lt hi hj)) (mulT_lt _ _), of_mul (h _ (pos_lt hr hj)) (h _ (pos_lt hi hjj)), mul_comm (of (g (r * C + j)))]
theorem Vw_elimU {i j : Nat} (h : El (R * C) g) (hu : El (R * C2) u) (hr : r < R) (hjj : jj < C) (hi : i < R) (hj : j < C2) : Vw C2 (elimU C C2 r jj g u) i j = Vw C2 u i j + (if i = r then 0 else Vw C g i jj) * Vw C2 u r j := by
  unfold Vw elimU
  rw [pos_div hj, pos_mod hj]
  by_cases e : i = r
  · rw [if_pos e, if_pos e, zero_mul, add_zero]
  · rw [if_neg e, if_neg e, of_xor (hu _ (pos_lt hi hj)) (mulT_lt _ _), of_mul (hu _ (pos_lt hr hj)) (h _ (pos_lt hi hjj)), mul_comm (of (u (r * C2 + j)))]
theorem elim_El (h : El (R * C) g) : El (R * C) (elimG C r jj g) := fun t ht => by
  unfold elimG
  split
  · exact h t ht
  · exact xor_lt (h t ht) (mulT_lt _ _)
theorem elimU_El (h : El (R * C2) u) : El (R * C2) (elimU C C2 r jj g u) := fun t ht => by
  unfold elimU
  split
  · exact h t ht
  · exact xor_lt (h t ht) (mulT_lt _ _)
def stM (l r jj : Nat) (A : Mt) (B : Mt) : Mt :=
  let h : Mt := fun i j => (if i = r then Fe.inv (A (sg l r r) jj) else 1) * B (sg l r i) j
  fun i j => h i j + (if i = r then 0 else (if i = r then Fe.inv (A (sg l r r) jj) else 1) * A (sg l r i) jj) * h r j
theorem Vw_stepG (h : El (R * C) g) (hl : l < R) (hr : r < R) (hjj : jj < C) (hp : g (l * C + jj) ≠ 0) : Eqm R C (Vw C (stepG C jj l r g)) (stM l r jj (Vw C g) (Vw C g)) ∧ El (R * C) (stepG C jj l r g) := by
  have hC : 0 < C := by omega
  have e1 := swap_El hl hr hC h
  obtain ⟨b, hb⟩ : ∃ b, b = swapR C l r g (r * C + jj) := ⟨_, rfl⟩
  have hb1 : b < 256 := by rw [hb]; exact e1 _ (pos_lt hr hjj)
  have ob : of b = Vw C g (sg l r r) jj := by rw [← Vw_swap hjj, hb]; rfl
  have hb0 : b ≠ 0 := fun e => hp (by
    have : Vw C g (sg l r r) jj = Vw C g l jj := by
      unfold sg
      by_cases e : r = l
      · rw [if_pos e, e]
      · rw [if_neg e, if_pos rfl]
    rw [this, e] at ob
    exact of_inj (h _ (pos_lt hl hjj)) (by omega) ob.symm)
  have e2 : El (R * C) (divR C r b (swapR C l r g)) := divR_el e1
  have es : stepG C jj l r g = elimG C r jj (divR C r b (swapR C l r g)) := by rw [hb]; rfl
  refine ⟨fun i j hi hj => ?_, by rw [es]; exact elim_El e2⟩
  rw [es, Vw_elim e2 hr hjj hi hj, Vw_div hb1 hb0 e1 hi hj, Vw_div hb1 hb0 e1 hi hjj, Vw_div hb1 hb0 e1 hr hj, Vw_swap hj, Vw_swap hj, Vw_swap hjj, ob]
  rfl
theorem Vw_stepU (h : El (R * C) g) (hu : El (R * C2) u) (hl : l < R) (hr : r < R) (hjj : jj < C) (hC2 : 0 < C2) (hp : g (l * C + jj) ≠ 0) : Eqm R C2 (Vw C2 (stepU C C2 jj l r g u)) (stM l r jj (Vw C g) (Vw C2 u)) ∧ El (R * C2) (stepU C C2 jj l r g u) := by
  have hC : 0 < C := by omega
  have e1 := swap_El hl hr hC h
  have u1 := swap_El hl hr hC2 hu
  obtain ⟨b, hb⟩ : ∃ b, b = swapR C l r g (r * C + jj) := ⟨_, rfl⟩
  have hb1 : b < 256 := by rw [hb]; exact e1 _ (pos_lt hr hjj)
  have ob : of b = Vw C g (sg l r r) jj := by rw [← Vw_swap hjj, hb]; rfl
  have hb0 : b ≠ 0 := fun e => hp (by
    have : Vw C g (sg l r r) jj = Vw C g l jj := by
      unfold sg
      by_cases e : r = l
      · rw [if_pos e, e]
      · rw [if_neg e, if_pos rfl]
    rw [this, e] at ob
    exact of_inj (h _ (pos_lt hl hjj)) (by omega) ob.symm)
  have e2 : El (R * C) (divR C r b (swapR C l r g)) := divR_el e1
  have u2 : El (R * C2) (divR C2 r b (swapR C2 l r u)) := divR_el u1
  have es : stepU C C2 jj l r g u = elimU C C2 r jj (divR C r b (swapR C l r g)) (divR C2 r b (swapR C2 l r u)) := by rw [hb]; rfl
  refine ⟨fun i j hi hj => ?_, by rw [es]; exact elimU_El u2⟩
  rw [es, Vw_elimU e2 u2 hr hjj hi hj, Vw_div hb1 hb0 u1 hi hj, Vw_div hb1 hb0 e1 hi hjj, Vw_div hb1 hb0 u1 hr hj, Vw_swap hj, Vw_swap hj, Vw_swap hjj, ob]
  rfl
theorem st_inv {A : Mt} (hl : l < R) (hr : r < R) (hp : A (sg l r r) jj ≠ 0) : ∃ T T', Inv R T T' ∧ ∀ (c : Nat) (B : Mt), Eqm R c (stM l r jj A B) (mm R T B) := by
  obtain ⟨k, hk⟩ : ∃ k, k = Fe.inv (A (sg l r r) jj) := ⟨_, rfl⟩
  have hkk : k * A (sg l r r) jj = 1 := by rw [hk]; exact inv_mul hp
  obtain ⟨m, hm⟩ : ∃ m : Nat → Fe, m = fun i => (if i = r then k else 1) * A (sg l r i) jj := ⟨_, rfl⟩
  refine ⟨mm R (elT r m) (mm R (scT r k) (swT l r)), _, (el_inv hr m).mul ((sc_inv hkk).mul (sw_inv hl hr)), fun c B i j hi _ => ?_⟩
  rw [mm_assoc, el_mm hr _ i j hi, mm_assoc, sc_mm _ i j hi, sc_mm _ r j hr, sw_mm hl hr B i j hi, sw_mm hl hr B r j hr, hm, hk]
  rfl
end
structure Ech (R : Nat) (G : Mt) (r j : Nat) (p : Nat → Nat) : Prop where
  rj : r ≤ j
  rR : r ≤ R
  pv : ∀ k, k < r → p k < j ∧ ∀ i, i < R → G i (p k) = dl i k
  zr : ∀ i, r ≤ i → i < R → ∀ c, c < j → G i c = 0
  sq : r = j → ∀ k, k < r → p k = k
theorem Ech.congr {R C r j : Nat} {G G' : Mt} {p : Nat → Nat} (h : Ech R G r j p) (hj : j ≤ C) (e : Eqm R C G' G) : Ech R G' r j p :=
  ⟨h.rj, h.rR, fun k hk => ⟨(h.pv k hk).1, fun i hi => by rw [e i _ hi (by have := (h.pv k hk).1; omega)]; exact (h.pv k hk).2 i hi⟩, fun i h1 h2 c hc => by rw [e i c h2 (by omega)]; exact h.zr i h1 h2 c hc, h.sq⟩
theorem dl_ne {i k : Nat} (h : i ≠ k) : dl i k = 0 := by unfold dl; rw [if_neg h]
theorem dl_eq (i : Nat) : dl i i = 1 := by unfold dl; rw [if_pos rfl]
theorem Ech.step {R r j l : Nat} {G : Mt} {p : Nat → Nat} (h : Ech R G r j p) (h1 : r ≤ l) (h2 : l < R) (hp : G (sg l r r) j ≠ 0) : Ech R (stM l r j G G) (r + 1) (j + 1) (fun k => if k = r then j else p k) := by
  have hr : r < R := by omega
  have sr : sg l r r = l := by
    unfold sg
    by_cases e : r = l
    · rw [if_pos e]; exact e
    · rw [if_neg e, if_pos rfl]
  have sge : ∀ i, r ≤ i → r ≤ sg l r i := fun i hi => by
    unfold sg
    split
    · omega
    · split <;> omega
  have slt : ∀ i, i < R → sg l r i < R := fun i hi => sg_lt h2 hr hi
  have kk : Fe.inv (G (sg l r r) j) * G (sg l r r) j = 1 := inv_mul hp
  have col : ∀ c, (∀ x, r ≤ x → x < R → G x c = 0) → ∀ i, i < R → stM l r j G G i c = if i = r then 0 else G (sg l r i) c := fun c hc i hi => by
    unfold stM
    dsimp only
    rw [hc (sg l r r) (by rw [sr]; exact h1) (by rw [sr]; exact h2), mul_zero, mul_zero, add_zero]
    by_cases e : i = r
    · rw [if_pos e, if_pos e, e, hc (sg l r r) (by rw [sr]; exact h1) (by rw [sr]; exact h2), mul_zero]
    · rw [if_neg e, if_neg e, one_mul]
  have colj : ∀ i, i < R → stM l r j G G i j = dl i r := fun i hi => by
    unfold stM
    dsimp only
    rw [if_pos rfl, kk, mul_one]
    by_cases e : i = r
    · rw [if_pos e, if_pos e, e, kk, add_zero, dl_eq]
    · rw [if_neg e, if_neg e, add_self, dl_ne e]
  refine ⟨by have := h.rj; omega, by omega, fun k hk => ?_, fun i h3 h4 c hc => ?_, fun e k hk => ?_⟩
  · by_cases e : k = r
    · rw [if_pos e]
      exact ⟨by omega, fun i hi => by rw [colj i hi, e]⟩
    · rw [if_neg e]
      obtain ⟨q1, q2⟩ := h.pv k (by omega)
      refine ⟨by omega, fun i hi => ?_⟩
      rw [col (p k) (fun x hx hx' => by rw [q2 x hx', dl_ne (by omega)]) i hi]
      by_cases e2 : i = r
      · rw [if_pos e2, dl_ne (by omega)]
      · rw [if_neg e2, q2 _ (slt i hi)]
        unfold sg
        by_cases e3 : i = l
        · rw [if_pos e3, dl_ne (by omega), dl_ne (by omega)]
        · rw [if_neg e3, if_neg e2]
  · by_cases e : c = j
    · rw [e, colj i h4, dl_ne (by omega)]
    · rw [col c (fun x hx hx' => h.zr x hx hx' c (by omega)) i h4, if_neg (by omega)]
      exact h.zr _ (sge i (by omega)) (slt i h4) c (by omega)
  · by_cases e2 : k = r
    · rw [if_pos e2]; omega
    · rw [if_neg e2]; exact h.sq (by omega) k (by omega)
theorem Ech.none {R r j : Nat} {G : Mt} {p : Nat → Nat} (h : Ech R G r j p) (hz : ∀ i, r ≤ i → i < R → G i j = 0) : Ech R G r (j + 1) p :=
  ⟨by have := h.rj; omega, h.rR, fun k hk => ⟨by have := (h.pv k hk).1; omega, (h.pv k hk).2⟩, fun i h1 h2 c hc => by
    by_cases e : c = j
    · rw [e]; exact hz i h1 h2
    · exact h.zr i h1 h2 c (by omega), fun e => by have := h.rj; omega⟩
theorem leadN_none (C j : Nat) (g : Nat → Nat) : ∀ m i, leadN C j g m i = i + m → ∀ x, i ≤ x → x < i + m → g (x * C + j) = 0
  | 0, i, _, x, h1, h2 => by omega
  | m + 1, i, h, x, h1, h2 => by
    unfold leadN at h
    split at h
    · rename_i e
      by_cases ex : x = i
      · rw [ex]; exact e
      · exact leadN_none C j g m (i + 1) (by omega) x (by omega) (by omega)
    · omega
theorem gaussN {R C C2 : Nat} (hC2 : 0 < C2) : ∀ (m j r : Nat) (g u : Nat → Nat) (p : Nat → Nat), j + m = C → El (R * C) g → El (R * C2) u → Ech R (Vw C g) r j p →
    ∃ T T' p' j', Inv R T T' ∧ Eqm R C (Vw C (stepsN R C C2 m j r g u).2.1) (mm R T (Vw C g)) ∧ Eqm R C2 (Vw C2 (stepsN R C C2 m j r g u).2.2) (mm R T (Vw C2 u)) ∧ El (R * C) (stepsN R C C2 m j r g u).2.1 ∧ El (R * C2) (stepsN R C C2 m j r g u).2.2 ∧
      Ech R (Vw C (stepsN R C C2 m j r g u).2.1) (stepsN R C C2 m j r g u).1 j' p' ∧ j' ≤ C ∧ (j' = C ∨ (stepsN R C C2 m j r g u).1 = R)
  | 0, j, r, g, u, p, hj, hg, hu, E => ⟨dl, dl, p, j, Inv.one R, (mm_dl (Nat.le_refl R) _).symm, (mm_dl (Nat.le_refl R) _).symm, hg, hu, E, by omega, .inl (by omega)⟩
  | m + 1, j, r, g, u, p, hj, hg, hu, E => by
    have hjC : j < C := by omega
    by_cases c1 : r < R
    · obtain ⟨l, hl⟩ : ∃ l, l = leadN C j g (R - r) r := ⟨_, rfl⟩
      have hle := leadN_le C j g (R - r) r
      rw [← hl] at hle
      by_cases c2 : l = R
      · have es : stepsN R C C2 (m + 1) j r g u = stepsN R C C2 m (j + 1) r g u := by
          simp only [stepsN]; rw [if_pos c1, ← hl, if_pos c2]
        rw [es]
        exact gaussN hC2 m (j + 1) r g u p (by omega) hg hu (E.none fun i h1 h2 => by
          unfold Vw
          rw [leadN_none C j g (R - r) r (by omega) i h1 (by omega), of_zero])
      · have es : stepsN R C C2 (m + 1) j r g u = stepsN R C C2 m (j + 1) (r + 1) (stepG C j l r g) (stepU C C2 j l r g u) := by
          simp only [stepsN]; rw [if_pos c1, ← hl, if_neg c2]
        have hlR : l < R := by omega
        have hp : g (l * C + j) ≠ 0 := by rw [hl]; exact leadN_ne C j g (R - r) r (by omega)
        have sr : sg l r r = l := by
          unfold sg
          by_cases e : r = l
          · rw [if_pos e]; exact e
          · rw [if_neg e, if_pos rfl]
        have hpV : Vw C g (sg l r r) j ≠ 0 := fun e => hp (by
          rw [sr] at e
          exact of_inj (hg _ (pos_lt hlR hjC)) (by omega) e)
        obtain ⟨gE, gL⟩ := Vw_stepG hg hlR c1 hjC hp
        obtain ⟨uE, uL⟩ := Vw_stepU hg hu hlR c1 hjC hC2 hp
        obtain ⟨T, T', TI, TE⟩ := st_inv (R := R) (jj := j) (A := Vw C g) hlR c1 hpV
        obtain ⟨S, S', p', j', SI, h1, h2, h3, h4, h5, h6, h7⟩ := gaussN hC2 m (j + 1) (r + 1) _ _ _ (by omega) gL uL ((E.step (by omega) hlR hpV).congr (by omega) gE)
        rw [es]
        refine ⟨mm R S T, _, p', j', SI.mul TI, ?_, ?_, h3, h4, h5, h6, h7⟩
        · rw [mm_assoc]
          exact h1.trans (mm_congr (Eqm.refl R R S) (gE.trans (TE C _)))
        · rw [mm_assoc]
          exact h2.trans (mm_congr (Eqm.refl R R S) (uE.trans (TE C2 _)))
    · have es : stepsN R C C2 (m + 1) j r g u = (r, g, u) := by simp only [stepsN]; rw [if_neg c1]
      rw [es]
      exact ⟨dl, dl, p, j, Inv.one R, (mm_dl (Nat.le_refl R) _).symm, (mm_dl (Nat.le_refl R) _).symm, hg, hu, E, by omega, .inr (by have := E.rR; show r = R; omega)⟩
theorem stepsN_fst {R C C2 C2' : Nat} : ∀ (m j r : Nat) (g u u' : Nat → Nat), (stepsN R C C2 m j r g u).1 = (stepsN R C C2' m j r g u').1
  | 0, _, _, _, _, _ => rfl
  | m + 1, j, r, g, u, u' => by
    simp only [stepsN]
    split
    · split
      · exact stepsN_fst m (j + 1) r g u u'
      · exact stepsN_fst m (j + 1) (r + 1) _ _ _
    · rfl
end Gz
namespace Gz
open Go Gx Go.Proofs Fe
def rk (R C : Nat) (g : Nat → Nat) : Nat := (stepsN R C 1 C 0 0 g fun _ => 0).1
theorem rk_any {R C : Nat} (C2 : Nat) (g u : Nat → Nat) : (stepsN R C C2 C 0 0 g u).1 = rk R C g := stepsN_fst _ _ _ _ _ _
theorem Vw_one {n i j : Nat} (hj : j < n) : Vw n (oneN n) i j = dl i j := by
  unfold Vw oneN dl
  rw [pos_div hj, pos_mod hj]
  split
  · exact of_one
  · exact of_zero
theorem oneN_El (n : Nat) : El (n * n) (oneN n) := fun t _ => by unfold oneN; split <;> omega
structure Gs (R C : Nat) (g : Nat → Nat) (T T' G : Mt) (p : Nat → Nat) : Prop where
  inv : Inv R T T'
  eq : Eqm R C G (mm R T (Vw C g))
  rR : rk R C g ≤ R
  pv : ∀ k, k < rk R C g → p k < C ∧ ∀ i, i < R → G i (p k) = dl i k
  zr : ∀ i, rk R C g ≤ i → i < R → ∀ c, c < C → G i c = 0
  sq : R = C → rk R C g = R → Eqm R R G dl
theorem gauss {R C : Nat} {g : Nat → Nat} (hR : 0 < R) (hg : El (R * C) g) : ∃ T T' G p, Gs R C g T T' G p ∧ Eqm R R (Vw R (stepsN R C R C 0 0 g (oneN R)).2.2) T := by
  obtain ⟨T, T', p, j, I, h1, h2, _, _, E, hj, h3⟩ := gaussN (C := C) hR C 0 0 g (oneN R) (fun k => k) (by omega) hg (oneN_El R) ⟨by omega, by omega, fun k hk => by omega, fun i _ _ c hc => by omega, fun _ k hk => by omega⟩
  have er := rk_any (R := R) (C := C) R g (oneN R)
  rw [er] at E h3
  refine ⟨T, T', _, p, ⟨I, h1, E.rR, fun k hk => ⟨by have := (E.pv k hk).1; omega, (E.pv k hk).2⟩, fun i h4 h5 c hc => ?_, fun e1 e2 => ?_⟩, ?_⟩
  · rcases h3 with h3 | h3
    · exact E.zr i h4 h5 c (by omega)
    · omega
  · subst e1
    have e3 : j = R := by
      have := E.rj
      omega
    intro i k hi hk
    have := (E.pv k (by omega)).2 i hi
    rwa [E.sq (by omega) k (by omega)] at this
  · exact h2.trans ((mm_congr (Eqm.refl R R T) (fun i j _ hj => Vw_one hj)).trans (dl_mm (Nat.le_refl R) T))
def Fac (k R C : Nat) (A : Mt) : Prop := ∃ P Q, Eqm R C A (mm k P Q)
theorem Gs.back {R C : Nat} {g : Nat → Nat} {T T' G : Mt} {p : Nat → Nat} (S : Gs R C g T T' G p) : Eqm R C (Vw C g) (mm R T' G) := by
  have : Eqm R C (mm R T' G) (mm R (mm R T' T) (Vw C g)) := by
    rw [mm_assoc]
    exact mm_congr (Eqm.refl R R T') S.eq
  exact (this.trans ((mm_congr S.inv.r (Eqm.refl R C _)).trans (mm_dl (Nat.le_refl R) _))).symm
theorem kernel {R C : Nat} {g : Nat → Nat} (hR : 0 < R) (hg : El (R * C) g) (h : rk R C g < R) : ∃ v : Nat → Fe, (∃ i, i < R ∧ v i ≠ 0) ∧ ∀ c, c < C → sm R (fun k => v k * Vw C g k c) = 0 := by
  obtain ⟨T, T', G, p, S, _⟩ := gauss hR hg
  refine ⟨T (R - 1), Classical.byContradiction fun hn => ?_, fun c hc => ?_⟩
  · have hz : ∀ i, i < R → T (R - 1) i = 0 := fun i hi => Classical.byContradiction fun e => hn ⟨i, hi, e⟩
    have := S.inv.l (R - 1) (R - 1) (by omega) (by omega)
    rw [dl_eq] at this
    exact one_ne (this.symm.trans (sm_zero fun k hk => by rw [hz k hk, zero_mul]))
  · exact (S.eq (R - 1) c (by omega) hc).symm.trans (S.zr (R - 1) (by omega) (by omega) c hc)
theorem Fac.congr {k R C : Nat} {A A' : Mt} (e : Eqm R C A A') (h : Fac k R C A) : Fac k R C A' := by
  obtain ⟨P, Q, f⟩ := h
  exact ⟨P, Q, e.symm.trans f⟩
theorem Fac.tr {k R C : Nat} {A : Mt} (h : Fac k R C A) : Fac k C R (tr A) := by
  obtain ⟨P, Q, e⟩ := h
  refine ⟨Gz.tr Q, Gz.tr P, fun i j hi hj => ?_⟩
  show A j i = _
  rw [e j i hj hi, ← tr_mm]
  rfl
end Gz
namespace Gz
open Go Gx Go.Proofs Fe
def ls : List Nat → (Nat → Fe) → Fe
  | [], _ => 0
  | y :: l, f => f y + ls l f
def cauN (k t : Nat) : Nat := (cau k t).toNat
theorem cauN_at {i j k : Nat} (hj : j < k) : cauN k (i * k + j) = if i < k then (if i = j then 1 else 0) else divT 1 (i ^^^ j) := by
  unfold cauN
  rw [cau_at hj]
  split
  · split <;> rfl
  · simp
theorem cauN_El {k N : Nat} (hk : 0 < k) : El N (cauN k) := fun t _ => by
  have e : t / k * k + t % k = t := by have := Nat.div_add_mod t k; rw [Nat.mul_comm] at this; exact this
  rw [← e, cauN_at (Nat.mod_lt _ hk)]
  split
  · split <;> omega
  · exact divT_lt
theorem Vw_cau {i j k : Nat} (hi : i < 256) (hj : j < k) (hk : k ≤ 256) : Vw k (cauN k) i j = if i < k then dl i j else Fe.inv (of i + of j) := by
  unfold Vw
  rw [cauN_at hj]
  by_cases e : i < k
  · rw [if_pos e, if_pos e]
    unfold dl
    split
    · exact of_one
    · exact of_zero
  · rw [if_neg e, if_neg e, ← of_xor hi (by omega)]
    refine Fe.ext ?_
    rw [of_v divT_lt]
    show _ = divT 1 (of (i ^^^ j)).v
    rw [of_v (xor_lt hi (by omega))]
end Gz
namespace Gz
open Go Gx Go.Proofs
structure Gl (base : Nat) (h : AHeap) (s : Slc) (xs : List Int) : Prop where
  st : ((s = nilS ∨ ∃ b0, s = ⟨some ⟨b0, 0, some 0⟩, 0, 0⟩) ∧ xs = []) ∨ ∃ b, Grown encI 3 h b s xs
  lt : ∀ a, s.a = some a → a.block < h.next ∧ base ≤ a.block
theorem Gl.nil (base : Nat) (h : AHeap) : Gl base h nilS [] := ⟨.inl ⟨.inl rfl, rfl⟩, fun a ha => by cases ha⟩
theorem Gl.zero {base b0 : Nat} {h : AHeap} (h1 : b0 < h.next) (h2 : base ≤ b0) : Gl base h ⟨some ⟨b0, 0, some 0⟩, 0, 0⟩ [] := ⟨.inl ⟨.inr ⟨b0, rfl⟩, rfl⟩, fun a ha => by cases ha; exact ⟨h1, h2⟩⟩
theorem Gl.row {base : Nat} {h : AHeap} {s : Slc} {xs : List Int} (G : Gl base h s xs) : Row encI h s xs := by
  rcases G.st with ⟨h1, rfl⟩ | ⟨b, g⟩
  · rcases h1 with rfl | ⟨b0, rfl⟩
    · exact Row.nil _ _ _ _
    · exact Row.nil _ _ _ _
  · exact g.row (G.lt ⟨b, 0, some 2⟩ (by rw [g.s])).1
theorem Gl.chg {base : Nat} {S : Nat → Prop} {h h' : AHeap} {s : Slc} {xs : List Int} (G : Gl base h s xs) (c : Chg S h h') (hs : ∀ a, s.a = some a → ¬ S a.block) : Gl base h' s xs := by
  refine ⟨G.st.imp id ?_, fun a ha => ⟨Nat.lt_of_lt_of_le (G.lt a ha).1 c.nx, (G.lt a ha).2⟩⟩
  rintro ⟨b, g⟩
  exact ⟨b, g.chg (G.lt ⟨b, 0, some 2⟩ (by rw [g.s])).1 c (hs ⟨b, 0, some 2⟩ (by rw [g.s]))⟩
theorem Gl.keeps {base : Nat} {h h' : AHeap} {s : Slc} {xs : List Int} (G : Gl base h s xs) (c : Keeps h h') : Gl base h' s xs := G.chg c fun _ _ f => f
theorem copy_nil' {h : AHeap} {xs : List Int} (hx : xs.length ≠ 0) (hs : 16 * xs.length ≤ 281474976710656) : appendA 1 8 3 h (⟨none, 0, 0⟩ : Slc) (xs.map encI) xs.length = some (whole h.next xs.length (some 2), h.new (outB encI 3 xs)) := by
  unfold appendA
  rw [if_neg (show ¬ (0 + xs.length ≤ 0) by omega), if_pos (show 2 * (0 + xs.length) * 8 ≤ 281474976710656 ∧ 1 ≤ 8 by omega)]
  rfl
theorem Gl.append {base : Nat} {h : AHeap} {s : Slc} {xs ys : List Int} (G : Gl base h s xs) (hs : 16 * (xs.length + ys.length) ≤ 281474976710656) (hb : base ≤ h.next) :
    ∃ s' h', appendA 1 8 3 h s (ys.map encI) ys.length = some (s', h') ∧ Gl base h' s' (xs ++ ys) ∧ Chg (ofS s) h h' ∧ ∀ a, s'.a = some a → h.next ≤ a.block ∨ ofS s a.block := by
  have nx : ∀ a : Addr, a.block < h.next → a.block < (h.new (outB encI 3 ys)).next := fun a ha => by simp; omega
  rcases G.st with ⟨h1, rfl⟩ | ⟨b, g⟩
  · by_cases e : ys = []
    · subst e
      rcases h1 with rfl | ⟨b0, rfl⟩
      · exact ⟨nilS, h, rfl, G, .refl _ _, fun a ha => by cases ha⟩
      · exact ⟨_, h, append_none (enc := encI), G, .refl _ _, fun a ha => .inr ⟨a, ha, rfl⟩⟩
    · have l0 : ys.length ≠ 0 := fun h => e (List.length_eq_zero_iff.1 h)
      have gr := Grown.of (enc := encI) (e := 3) (h := h) (xs := ys) e
      rcases h1 with rfl | ⟨b0, rfl⟩
      · exact ⟨_, _, copy_nil' l0 (by simp at hs; omega), ⟨.inr ⟨_, gr⟩, fun a ha => by cases ha; simp; omega⟩, Chg.new _ _, fun a ha => by cases ha; simp⟩
      · exact ⟨_, _, append_fresh (enc := encI) l0 (by simp at hs; omega) (by omega), ⟨.inr ⟨_, gr⟩, fun a ha => by cases ha; simp; omega⟩, Chg.new _ _, fun a ha => by cases ha; simp⟩
  · have hlt := G.lt ⟨b, 0, some 2⟩ (by rw [g.s])
    by_cases e : ys = []
    · subst e
      refine ⟨s, h, ?_, by rw [List.append_nil]; exact G, .refl _ _, fun a ha => .inr ⟨a, ha, rfl⟩⟩
      rw [g.s]
      simp [appendA]
    · have ap := g.append (bytes := 8) (ys := ys) (fun _ => rfl) e (by omega) (by omega)
      refine ⟨_, _, ap, ⟨.inr ⟨_, rfl, by simp, fun e' => e (List.append_eq_nil_iff.1 e').2⟩, fun a ha => by cases ha; simp; omega⟩, Chg.kill_new (.inr ⟨⟨b, 0, some 2⟩, by rw [g.s], rfl⟩), fun a ha => by cases ha; simp⟩
structure GA (H0 : AHeap) (base ob : Nat) (r c : Int) (xs : List Int) (h : AHeap) (s : Slc) : Prop where
  ch : Chg (fun x => base ≤ x) H0 h
  co : h.get ob = some (.cells (mcell r c s) 84 true 0)
  lo : ob < h.next
  bo : base ≤ ob
  gl : Gl base h s xs
  no : ∀ a, s.a = some a → a.block ≠ ob
theorem GA.push {H0 : AHeap} {base ob : Nat} {r c : Int} {xs : List Int} {h : AHeap} {s : Slc} (G : GA H0 base ob r c xs h s) (x : Int) (hs : xs.length ≤ 1000000) :
    ∃ g s' h1 h2, g = h.new (.cells [.int .i64 x] 3 true 0) ∧ Gx.rdS 1 (⟨some ⟨h.next, 0, some 0⟩, 1, 1⟩ : Slc) g = some [.int .i64 x] ∧ appendA 1 8 3 g s [.int .i64 x] 1 = some (s', h1) ∧ st1 ⟨ob, 2, none⟩ (.slice s'.a s'.len s'.cap) h1 = some h2 ∧
      g.get ob = some (.cells (mcell r c s) 84 true 0) ∧ GA H0 base ob r c (xs ++ [x]) h2 s' := by
  have k1 : Keeps h (h.new (.cells [.int .i64 x] 3 true 0)) := Keeps.new h _
  have lo := G.lo
  have bo := G.bo
  have cg : (h.new (.cells [.int .i64 x] 3 true 0)).get ob = some (.cells (mcell r c s) 84 true 0) := by rw [k1.oth _ lo (fun f => f)]; exact G.co
  obtain ⟨s', h1, ap, G1, c1, n1⟩ := (G.gl.keeps k1).append (ys := [x]) (by simp; omega) (by simp; omega)
  have no' : ∀ a, s'.a = some a → a.block ≠ ob := fun a ha => by
    rcases n1 a ha with q | ⟨b, hb, e⟩
    · simp at q; omega
    · rw [e]; exact G.no b hb
  have co1 : h1.get ob = some (.cells (mcell r c s) 84 true 0) := by rw [c1.oth _ (by simp; omega) (fun ⟨a, ha, e⟩ => G.no a ha e.symm)]; exact cg
  have cset : Chg (· = ob) h1 (h1.set ob (.cells (mcell r c s') 84 true 0)) := Chg.set (.inr rfl)
  have l1 : ob < h1.next := by have := c1.nx; simp at this; omega
  refine ⟨_, s', h1, _, rfl, rdS_one, ap, stS2 co1, cg, ⟨?_, by simp, l1, bo, G1.chg cset no', no'⟩⟩
  refine ((G.ch.trans (Chg.keeps k1)).trans (c1.wk fun x hx => ?_)).trans (cset.wk fun x _ e => ?_)
  · rintro ⟨a, ha, rfl⟩; exact (G.gl.lt a ha).2
  · have e : x = ob := e
    rw [e]; exact bo
end Gz
namespace Gz
open Go Gx Go.Proofs Fe
structure MV (sb fb : Nat) (h : AHeap) (b R C : Nat) (s : Slc) (g : Nat → Nat) : Prop where
  cel : h.get b = some (.cells (mcell R C s) 84 true 0)
  lt : b < h.next
  nf : b ≠ fb
  inm : InM h s (matN (R * C) g)
  ap : ∀ a, s.a = some a → a.block ≠ sb ∧ a.block ≠ fb
  r1 : 1 ≤ R
  r2 : R ≤ 255
  c1 : 1 ≤ C
  c2 : C ≤ 255
  el : El (R * C) g
section
variable {k0 : Nat} {sb fb : Nat} {h h' : AHeap} {b b2 R C C2 n : Nat} {s s2 : Slc} {f g : Nat → Nat}
theorem MV.chg (m : MV sb fb h b R C s g) (c : Chg (· = fb) h h') : MV sb fb h' b R C s g :=
  ⟨by rw [c.oth _ m.lt m.nf]; exact m.cel, Nat.lt_of_lt_of_le m.lt c.nx, m.nf, m.inm.chg c fun a ha => (m.ap a ha).2, m.ap, m.r1, m.r2, m.c1, m.c2, m.el⟩
theorem MV.keeps (m : MV sb fb h b R C s g) (c : Keeps h h') : MV sb fb h' b R C s g := m.chg (Chg.keeps c)
theorem MV.len (m : MV sb fb h b R C s g) : (matN (R * C) g).length ≤ 100000 := by
  rw [show (matN (R * C) g).length = R * C from mat_length _ _]
  exact Nat.le_trans (Nat.mul_le_mul m.r2 m.c2) (by omega)
theorem MV.put {h1 : AHeap} {X : (Int × Int × Slc) × Int} {p : MRes} (S : Spc h sb fb) (O : Out h h1 X p) (c1 : Chg (· = fb) h h1) (S1 : Spc h1 sb fb) (hp : p = (((R : Int), (C : Int), matN (R * C) g), 0)) (r1 : 1 ≤ R) (r2 : R ≤ 255) (q1 : 1 ≤ C) (q2 : C ≤ 255) (el : El (R * C) g) :
    ∃ h2 s', X = (((R : Int), (C : Int), s'), 0) ∧ stL 3 ⟨h1.next, 0, none⟩ (mcell R C s') (h1.new (.cells [.int .i64 0, .int .i64 0, .slice none 0 0] 84 true 0)) = some h2 ∧ MV sb fb h2 h1.next R C s' g ∧ Spc h2 sb fb ∧ Chg (· = fb) h h2 := by
  obtain ⟨⟨r, c, s'⟩, code⟩ := X
  subst hp
  obtain rfl : r = (R : Int) := O.r
  obtain rfl : c = (C : Int) := O.c
  obtain rfl : code = 0 := O.code
  obtain ⟨h2, st2, k2, n2, b2⟩ := mvar (h := h1) (e := 84) (r := (R : Int)) (c := (C : Int)) (s := s')
  have ls := S.ls
  have lf := S.lf
  have nx := c1.nx
  exact ⟨h2, s', rfl, st2, ⟨b2, by omega, by omega, O.inm.keeps k2, fun a ha => by have := O.off a ha; exact ⟨by omega, by omega⟩, r1, r2, q1, q2, el⟩, S1.keeps k2, c1.trans (Chg.keeps k2)⟩
end
end Gz
namespace Gz
open Go Gx Go.Proofs Fe
end Gz
namespace Gz
open Go Gx Go.Proofs Fe
section
variable {k0 : Nat} {H0 : AHeap} {base N K : Nat}
end
end Gz
namespace Gz
open Go Gx Go.Proofs
theorem cau_cast (k t : Nat) : cau k t = ((cauN k t : Nat) : Int) := by
  unfold cauN cau
  split
  · split <;> rfl
  · simp
structure GoodK (k m n : Nat) (ps : List Prt) : Prop where
  len : ps.length = k
  nd : (idxs ps).Nodup
  rng : ∀ x ∈ ps, 0 ≤ x.1 ∧ x.1 < ((k + m : Nat) : Int)
  sz : ∀ x ∈ ps, x.2.size = n
end Gz
namespace Gz
open Go Gx Go.Proofs
end Gz
namespace Gz
open Go Gx Go.Proofs
theorem addL_get {a b : List UInt8} {i : Nat} : (addL a b)[i]? = (a[i]?).bind fun x => (b[i]?).map fun y => x ^^^ y := by
  simp only [addL, List.getElem?_zipWith]
  cases a[i]? <;> cases b[i]? <;> rfl
theorem add_zero (n : Nat) : addL (List.replicate n 0) (List.replicate n 0) = List.replicate n (0 : UInt8) := by
  simp [addL]
theorem head_sz {n : Nat} {ls : List ByteArray} (h : sames n ls = true) (h0 : ls ≠ []) : (ls.headD ⟨#[]⟩).size = n := by
  cases ls with
  | nil => exact absurd rfl h0
  | cons a t => simp only [sames, List.all_cons, Bool.and_eq_true, beq_iff_eq] at h; exact h.1
theorem mixA_ok {n : Nat} {ls : List ByteArray} {cs : List Int} (h : sames n ls = true) (hl : ls.length = cs.length) (hin : cs.all inR = true) : ∃ m, mixA ls cs = (⟨⟨mixL ls cs (List.replicate m 0)⟩⟩, 0) ∧ (ls ≠ [] → m = n) ∧ (ls = [] → m = 0) := by
  refine ⟨(ls.headD ⟨#[]⟩).size, ?_, head_sz h, fun e => by rw [e]; rfl⟩
  unfold mixA
  have : sames (ls.headD ⟨#[]⟩).size ls = true := by
    by_cases e : ls = []
    · subst e; rfl
    · rw [head_sz h e]; exact h
  rw [if_pos hl, if_pos this, if_pos hin]
end Gz
namespace Gz
open Go Gx Go.Proofs Fe
def bv (l : List UInt8) (t : Nat) : Fe := of ((l[t]?.getD 0).toNat)
theorem bv_lt (c : UInt8) : c.toNat < 256 := UInt8.toNat_lt c
theorem bv_add {a b : List UInt8} {t : Nat} (ha : t < a.length) (hb : t < b.length) : bv (addL a b) t = bv a t + bv b t := by
  unfold bv
  rw [addL_get]
  obtain ⟨x, hx⟩ := isome ha
  obtain ⟨y, hy⟩ := isome hb
  simp only [hx, hy, Option.bind_some, Option.map_some, Option.getD_some]
  rw [UInt8.toNat_xor, of_xor (bv_lt x) (bv_lt y)]
theorem bv_scale {c : Nat} (hc : c < 256) {l : List UInt8} {t : Nat} (ht : t < l.length) : bv (scaleL c l) t = of c * bv l t := by
  unfold bv scaleL
  obtain ⟨x, hx⟩ := isome ht
  simp only [List.getElem?_map, hx, Option.map_some, Option.getD_some]
  have hm : mulT x.toNat c < 256 := mulT_lt _ _
  rw [toNat_ofNat, Nat.mod_eq_of_lt hm, of_mul (bv_lt x) hc, Fe.mul_comm]
theorem bv_zero (n t : Nat) : bv (List.replicate n 0) t = 0 := by
  unfold bv
  by_cases h : t < n
  · simp [h]; rfl
  · simp [h]; rfl
theorem sm_shift : ∀ (n : Nat) (f : Nat → Fe), sm (n + 1) f = f 0 + sm n fun i => f (i + 1)
  | 0, f => by show (0 : Fe) + f 0 = f 0 + 0; rw [Fe.zero_add, Fe.add_zero]
  | n + 1, f => by
    rw [sm_s, sm_shift n f, sm_s]
    show f 0 + sm n (fun i => f (i + 1)) + f (n + 1) = f 0 + (sm n (fun i => f (i + 1)) + f (n + 1))
    ac_rfl
theorem mixL_bv {n t : Nat} (ht : t < n) : ∀ (ls : List ByteArray) (cs : List Int) (o : List UInt8), ls.length = cs.length → (∀ s ∈ ls, s.size = n) → (∀ c ∈ cs, 0 ≤ c ∧ c < 256) → o.length = n →
    bv (mixL ls cs o) t = bv o t + sm ls.length fun j => of ((cs[j]?.getD 0).toNat) * bv (bl (ls[j]?.getD ⟨#[]⟩)) t
  | [], cs, o, _, _, _, _ => by show bv o t = bv o t + 0; rw [Fe.add_zero]
  | s :: ls, [], o, h, _, _, _ => by simp at h
  | s :: ls, c :: cs, o, h, hs, hc, ho => by
    have hss : (bl s).length = n := by rw [bl_length]; exact hs s (List.mem_cons_self ..)
    have hcc := hc c (List.mem_cons_self ..)
    have hsc : (scaleL c.toNat (bl s)).length = n := by rw [scaleL_length]; exact hs s (List.mem_cons_self ..)
    have hol : (addL o (scaleL c.toNat (bl s))).length = n := by simp [addL, ho, hsc]
    have ih := mixL_bv ht ls cs (addL o (scaleL c.toNat (bl s))) (by simpa using h) (fun x hx => hs x (List.mem_cons_of_mem _ hx)) (fun x hx => hc x (List.mem_cons_of_mem _ hx)) hol
    show bv (mixL ls cs (addL o (scaleL c.toNat (bl s)))) t = _
    rw [ih, bv_add (by omega) (by omega), bv_scale (by omega) (by omega), List.length_cons, sm_shift]
    simp only [List.getElem?_cons_zero, List.getElem?_cons_succ, Option.getD_some]
    ac_rfl
theorem sames_of {n : Nat} {ls : List ByteArray} (h : ∀ s ∈ ls, s.size = n) : sames n ls = true := List.all_eq_true.2 fun s hs => by simpa using h s hs
theorem inR_of {cs : List Int} (h : ∀ c ∈ cs, 0 ≤ c ∧ c < 256) : cs.all inR = true := List.all_eq_true.2 fun c hc => by
  have := h c hc
  unfold inR
  rw [decide_eq_false (by omega), decide_eq_false (by omega)]; rfl
theorem mix_bv {n : Nat} {ls : List ByteArray} {cs : List Int} (hne : ls ≠ []) (hl : ls.length = cs.length) (hs : ∀ s ∈ ls, s.size = n) (hc : ∀ c ∈ cs, 0 ≤ c ∧ c < 256) :
    (mixA ls cs).2 = 0 ∧ (mixA ls cs).1.size = n ∧ ∀ t, t < n → bv (bl (mixA ls cs).1) t = sm ls.length fun j => of ((cs[j]?.getD 0).toNat) * bv (bl (ls[j]?.getD ⟨#[]⟩)) t := by
  obtain ⟨m, h1, h2⟩ := mixA_ok (sames_of hs) hl (inR_of hc)
  have hm := h2.1 hne
  subst hm
  rw [h1]
  refine ⟨rfl, ?_, fun t ht => ?_⟩
  · rw [size_mk]; exact mixL_length (sames_of hs) (by simp)
  · rw [bl_mk, mixL_bv ht ls cs _ hl hs hc (by simp), bv_zero, Fe.zero_add]
theorem rowC_eq (k i : Nat) : rowC k i = (List.range k).map fun j => ((cauN k (i * k + j) : Nat) : Int) := List.map_congr_left fun _ _ => cau_cast k _
theorem row_range {k : Nat} {f : Nat → Nat} (hf : ∀ j, j < k → f j < 256) : ∀ c ∈ (List.range k).map (fun j => ((f j : Nat) : Int)), 0 ≤ c ∧ c < 256 := fun c hc => by
  obtain ⟨j, hj, rfl⟩ := List.mem_map.1 hc
  have := hf j (List.mem_range.1 hj); omega
theorem range_get {α : Type} {k j : Nat} {f : Nat → α} {d : α} (hj : j < k) : (((List.range k).map f)[j]?).getD d = f j := by simp [hj]
theorem piecesL_ne {k : Nat} (hk : 0 < k) (s : ByteArray) : piecesL k s ≠ [] := fun e => by
  have := congrArg List.length e
  rw [piecesL_length] at this
  have : k = 0 := this
  omega
theorem shard_bv {k m r : Nat} (hk : 0 < k) (hR : k + m ≤ 255) (s : ByteArray) (hr : r < k + m) : (shardB k s r).size = nE k s.size ∧ ∀ t, t < nE k s.size → bv (bl (shardB k s r)) t = sm k fun j => Vw k (cauN k) r j * bv (bl (pieceB k s j)) t := by
  have hE : ∀ j, j < k → cauN k (r * k + j) < 256 := fun j hj => cauN_El hk (N := (k + m) * k) _ (pos_lt hr hj)
  by_cases h : r < k
  · rw [shard_piece s h]
    refine ⟨pieceB_size hk s h, fun t _ => ?_⟩
    rw [sm_congr (g := fun j => dl r j * bv (bl (pieceB k s j)) t) fun j hj => by rw [Vw_cau (by omega) hj (by omega), if_pos h]]
    exact (sm_dl (fun j => bv (bl (pieceB k s j)) t) h).symm
  · have e : shardB k s r = (mixA (piecesL k s) (rowC k r)).1 := by unfold shardB; rw [if_neg h]
    obtain ⟨_, h2, h3⟩ := mix_bv (n := nE k s.size) (ls := piecesL k s) (cs := rowC k r) (piecesL_ne hk s) (by rw [piecesL_length, rowC_length]) (fun x hx => pieces_mem hk hx) (by rw [rowC_eq k r]; exact row_range hE)
    rw [e]
    refine ⟨h2, fun t ht => ?_⟩
    rw [h3 t ht, piecesL_length]
    refine sm_congr fun j hj => ?_
    rw [rowC_eq k r, range_get hj, Int.toNat_natCast]
    congr 2
    unfold piecesL
    rw [range_get hj]
structure OfS (k m : Nat) (s : ByteArray) (ps : List Prt) : Prop where
  good : GoodK k m (nE k s.size) ps
  data : ∀ x ∈ ps, x.2 = shardB k s x.1.toNat
end Gz
namespace Gz
open Go Gx Go.Proofs
def shOf (k m : Nat) (data : ByteArray) (i : Nat) : Sh := ((k : Int), (m : Int), (i : Int), (data.size : Int), digB data, shardB k data i)
def txt (k m : Nat) (data : ByteArray) (i : Nat) : ByteArray := ⟨⟨textL (shOf k m data i)⟩⟩
theorem shOf_ok {k m : Nat} (hk : 0 < k) (hR : k + m ≤ 255) {data : ByteArray} (hd : data.size ≤ 65536) {i : Nat} (hi : i < k + m) : chkA (shOf k m data i) = 0 := by
  have hs := (shard_bv hk hR data hi).1
  have e : Int.tdiv ((data.size : Int) + (k : Int) - 1) (k : Int) = ((nE k data.size : Nat) : Int) := by
    have : (data.size : Int) + k - 1 = ((data.size + k - 1 : Nat) : Int) := by omega
    rw [this]; rfl
  unfold chkA shOf
  simp only [hs, e, digB_size]
  rw [if_neg (by omega), if_neg (by omega), if_neg (by omega), if_neg (by omega), if_neg (by omega), if_neg (by omega), if_neg (by omega), if_neg (by omega), if_neg (by simp), if_neg (by simp)]
theorem mk_l0 {k0 : Nat} (hk0 : 70000 ≤ k0) (D : CallF) (bot) {k m : Nat} (hk : 0 < k) (hR : k + m ≤ 255) {data : ByteArray} (hd : data.size ≤ 65536) {h0 : AHeap} {y : Slc} (R : Row encS h0 y (shardsL k m data)) :
    ∀ (d i : Nat) (o : Slc) (h : AHeap), i + d = k + m → Keeps h0 h → Acc encS 9 h0.next h o ((List.range i).map (txt k m data)) →
      Gx.Wp (iterK bot (d + 1) (shard_Make_l0b k0 D fun (out5 : Slc) (h6 : AHeap) => some ((out5, 0), h6)) (k : Int) (m : Int) data (digB data) o y ((k + m : Nat) : Int) (i : Int) h) fun q => q.1.2 = 0 ∧ Keeps h0 q.2 ∧ Acc encS 9 h0.next q.2 q.1.1 ((List.range (k + m)).map (txt k m data)) := fun d => by
  induction d with
  | zero =>
    intro i o h hi kp A
    rw [iterK_s]; simp only [shard_Make_l0b]
    obtain rfl : i = k + m := by omega
    exact Gx.Wp.ifn (by simp) (Gx.Wp.of ⟨rfl, kp, A⟩)
  | succ d ih =>
    intro i o h hi kp A
    rw [iterK_s]; simp only [shard_Make_l0b]
    refine Gx.Wp.ifp (by simp; omega) ?_
    obtain ⟨q, i1, i2⟩ := (R.keeps kp).ldS (shards_get (i := i) data (by omega))
    refine Gx.Wp.bnd i1 (Gx.Wp.bnd i2 ?_)
    obtain ⟨h1, e1, k1⟩ := text_spec (k := k0) hk0 D (shOf k m data i) h (shOf_ok hk hR hd (by omega))
    refine Gx.Wp.bnd e1 ?_
    refine Gx.Wp.bnd rdS_one ?_
    obtain ⟨o2, h2, e2, A2, c2, _⟩ := (A.keeps k1).push (bytes := 16) (fun _ => rfl) (txt k m data i) (by rw [List.length_map, List.length_range]; omega) (by omega) (kp.trans k1).nx
    refine Gx.Wp.bnd e2 ?_
    rw [Gx.w1 (by omega)]
    refine ih (i + 1) o2 h2 (by omega) (Chg.beh (kp.trans k1) c2 fun x hx ⟨a, ha, e⟩ => by have := (A.lt a ha).2; omega) ?_
    rw [List.range_succ, List.map_append]; exact A2
theorem make_spec {k0 : Nat} (hk0 : 70000 ≤ k0) {h : AHeap} (kg : KG 0 h) {k m : Nat} (hk : 0 < k) (hR : k + m ≤ 255) {data : ByteArray} (hd : data.size ≤ 65536) :
    Gx.Wp (shard_Make k0 (DD k0) (k : Int) (m : Int) data h) fun q => q.1.2 = 0 ∧ Keeps h q.2 ∧ Row encS q.2 q.1.1 ((List.range (k + m)).map (txt k m data)) ∧ Acc encS 9 h.next q.2 q.1.1 ((List.range (k + m)).map (txt k m data)) := by
  simp only [shard_Make]
  obtain ⟨h1, pb, f2, B, sb, fb, r1, p1, k1, a1, a2, a3, a4, a5⟩ := snew_spec (k0 := k0) (by omega) h hk hR
  refine Gx.Wp.bnd r1 (Gx.Wp.ifn (by simp) ?_)
  obtain ⟨h2, ob, r2, b2, o1, o2, p2, c2⟩ := split_spec hk0 p1 hk hR data hd
  have k2 : Keeps h h2 := Chg.beh k1 c2 fun x hx e => by have e : x = f2 := e; omega
  have Rs := shards_row b2 o2
  refine Gx.Wp.bnd r2 (Gx.Wp.ifn (by simp) ?_)
  have k3 : Keeps h2 (h2.new (.cells [.string data] 9 true 0)) := Keeps.new h2 _
  have R3 : Row encS (h2.new (.cells [.string data] 9 true 0)) (⟨some ⟨h2.next, 0, some 0⟩, 1, 1⟩ : Slc) [data] :=
    Row.of_block (enc := encS) (xs := [data]) (b := h2.next) (o := 0) (c := [.string data]) (e := 9) (r := true) (fz := 0) (by simp) (by simp) fun i x hx => by
      match i with
      | 0 => cases hx; rfl
      | i + 1 => simp at hx
  have cl : catL [data] = bl data := by simp [catL]
  refine Gx.Wp.call (sum_spec (k0 := k0) (by omega) (DD k0) (kg.chg (k2.trans k3) fun f => f) R3 (by rw [cl, bl_length]; omega) (by rw [cl, bl_length]; omega) (by simp; omega) (by simp)) fun q ⟨q1, q2⟩ => ?_
  rw [cl] at q1
  obtain ⟨dg, h4⟩ := q
  simp only at q1 q2 ⊢
  subst q1
  refine Gx.Wp.jn fun j hj => ?_
  unfold shard_Make_l0
  obtain ⟨bot, eb⟩ := iterK_of (fun _ _ _ _ _ _ _ _ _ => none) (shard_Make_l0b k0 (DD k0) j) (show (k + m) + 1 ≤ k0 by omega)
  rw [eb]
  subst hj
  have K4 : Keeps h h4 := k2.trans (k3.trans q2)
  refine (mk_l0 hk0 (DD k0) bot hk hR hd (h0 := h4) (Rs.keeps (k3.trans q2)) (k + m) 0 ⟨none, 0, 0⟩ h4 (by omega) (Chg.refl _ _) (Acc.nil _ _ _ _)).mono ?_
  rintro r ⟨z1, z2, z3⟩
  exact ⟨z1, K4.trans z2, z3.row, z3.st, fun a ha => ⟨(z3.lt a ha).1, Nat.le_trans K4.nx (z3.lt a ha).2⟩⟩
end Gz
namespace Gz
open Go Gx Go.Proofs
theorem turn_spec (k0 : Nat) (D : CallF) (x : UInt32) (n : Nat) (hn : 0 < n ∧ n < 32) (h : AHeap) : ref02_turn k0 D (x.toNat : Int) (n : Int) h = some (((rotr x n).toNat : Int), h) := by
  simp only [ref02_turn]
  have e : IntKind.wrap .i64 (32 - (n : Int)) = ((32 - n : Nat) : Int) := sw64 (by omega) (by omega)
  rw [e, if_pos (by omega), if_pos (by omega), Int.toNat_natCast, Int.toNat_natCast]
  have m1 : min (32 - n) (IntKind.bits .u32) = 32 - n := Nat.min_eq_left (by show 32 - n ≤ 32; omega)
  have m2 : min n (IntKind.bits .u32) = n := Nat.min_eq_left (by show n ≤ 32; omega)
  have p1 : (2 : Int) ^ (32 - n) = ((2 ^ (32 - n) : Nat) : Int) := by simp
  have p2 : (2 : Int) ^ n = ((2 ^ n : Nat) : Int) := by simp
  rw [m1, m2, p1, p2, shlU x (32 - n) (by omega), shrU x n (by omega), orU]
  unfold rotr
  rw [UInt32.or_comm]
theorem rw_l1 {K : Nat} (hK : 9 ≤ K) (D : CallF) (j) (bot) {Q : List Value × AHeap → Prop} {h0 : AHeap} {s : ByteArray} (hs : s.size = 64) {yb wb : Nat} (hwb : h0.next ≤ wb)
    {f : Nat → UInt32} (hf : ∀ i, i < 16 → f i = wAt (bl s) i) {g0 : ABlk} (hyw : yb ≠ wb)
    (hj : ∀ h, Keeps h0 h → h.get yb = some g0 → h.get wb = some (.cells (filU f 64 16) 159 true 0) → Gx.Wp (j (some ⟨yb, 0, none⟩) (some ⟨wb, 0, none⟩) h) Q) :
    ∀ (d i : Nat) (h : AHeap), i + d = 16 → Keeps h0 h → h.get yb = some g0 → h.get wb = some (.cells (filU f 64 i) 159 true 0) →
      Gx.Wp (iterK bot (d + 1) (ref02_words_l1b K D j) s (some ⟨yb, 0, none⟩) (some ⟨wb, 0, none⟩) (i : Int) h) Q := fun d => by
  induction d with
  | zero =>
    intro i h hi kp hy hb
    rw [iterK_s]; simp only [ref02_words_l1b]
    obtain rfl : i = 16 := by omega
    exact Gx.Wp.ifn (by simp) (hj h kp hy hb)
  | succ d ih =>
    intro i h hi kp hy hb
    rw [iterK_s]; simp only [ref02_words_l1b]
    refine Gx.Wp.ifp (by simp; omega) ?_
    have e0 : IntKind.wrap .i64 (4 * (i : Int)) = ((4 * i : Nat) : Int) := sw64 (by omega) (by omega)
    have e1 : IntKind.wrap .i64 (((4 * i : Nat) : Int) + 4) = ((4 * i + 4 : Nat) : Int) := sw64 (by omega) (by omega)
    rw [e0, e1]
    have hl : (bl s).length = 64 := by rw [bl_length]; exact hs
    obtain ⟨a, ga⟩ := isome (l := bl s) (i := 4 * i) (by omega)
    obtain ⟨b, gb⟩ := isome (l := bl s) (i := 4 * i + 1) (by omega)
    obtain ⟨c, gc⟩ := isome (l := bl s) (i := 4 * i + 2) (by omega)
    obtain ⟨e, ge⟩ := isome (l := bl s) (i := 4 * i + 3) (by omega)
    have hsub := subS_of (s := s) (lo := some ((4 * i : Nat) : Int)) (hi := some ((4 * i + 4 : Nat) : Int)) (i := 4 * i) (j := 4 * i + 4) rfl rfl (by omega) (by omega)
    have hl4 : ((bl s).take (4 * i + 4)).drop (4 * i) = [a, b, c, e] := by
      apply List.ext_getElem?
      intro q
      rw [List.getElem?_drop, List.getElem?_take]
      match q with
      | 0 => rw [if_pos (by omega)]; exact ga
      | 1 => rw [if_pos (by omega)]; exact gb
      | 2 => rw [if_pos (by omega)]; exact gc
      | 3 => rw [if_pos (by omega)]; exact ge
      | q + 4 => rw [if_neg (by omega)]; simp
    rw [hl4] at hsub
    refine Gx.Wp.bnd hsub (Gx.Wp.bnd (rnum_spec (kf := K) hK D _ h (by show 4 ≤ 7; decide)) (Gx.Wp.bnd rfl (Gx.Wp.bnd (sidxA (by omega)) ?_)))
    have ev : IntKind.wrap .u32 ((numL 0 (bl (⟨⟨[a, b, c, e]⟩⟩ : ByteArray)) : Nat) : Int) = ((f i).toNat : Int) := by
      rw [hf i (by omega)]
      unfold wAt
      rw [ga, gb, gc, ge]
      simp only [Option.getD_some]
      rw [be32_nat, bl_mk]
      simp only [numL]
      have := a.toNat_lt; have := b.toNat_lt; have := c.toNat_lt; have := e.toNat_lt
      rw [wr_u32 _ (by omega) (by omega)]
      omega
    rw [ev]
    have hst : st1 ⟨wb, i, none⟩ (.int .u32 ((f i).toNat : Int)) h = some (h.set wb (.cells (filU f 64 (i + 1)) 159 true 0)) := by
      rw [st1_of hb (by rw [filU_length (by omega)]; omega) rfl, filU_set (by omega)]
    refine Gx.Wp.bnd hst ?_
    rw [Gx.w1 (by omega)]
    exact ih (i + 1) _ (by omega) (kp.set hwb) (by rw [AHeap.get_set, if_neg hyw]; exact hy) (sset_get _ _ _)
theorem rw_l0 (K : Nat) (D : CallF) (j) (bot) {Q : List Value × AHeap → Prop} {h0 : AHeap} {yb wb : Nat} (hwb : h0.next ≤ wb) {m : Nat → UInt32} {g0 : ABlk} (hyw : yb ≠ wb)
    (hj : ∀ h, Keeps h0 h → h.get yb = some g0 → h.get wb = some (.cells (filU (sched m) 64 64) 159 true 0) → Gx.Wp (j (some ⟨yb, 0, none⟩) (some ⟨wb, 0, none⟩) h) Q) :
    ∀ (d i : Nat) (h : AHeap), i + d = 64 → 16 ≤ i → Keeps h0 h → h.get yb = some g0 → h.get wb = some (.cells (filU (sched m) 64 i) 159 true 0) →
      Gx.Wp (iterK bot (d + 1) (ref02_words_l0b K D j) (some ⟨yb, 0, none⟩) (some ⟨wb, 0, none⟩) (i : Int) h) Q := fun d => by
  induction d with
  | zero =>
    intro i h hi h16 kp hy hb
    rw [iterK_s]; simp only [ref02_words_l0b]
    obtain rfl : i = 64 := by omega
    exact Gx.Wp.ifn (by simp) (hj h kp hy hb)
  | succ d ih =>
    intro i h hi h16 kp hy hb
    rw [iterK_s]; simp only [ref02_words_l0b]
    refine Gx.Wp.ifp (by simp; omega) ?_
    have e15 : IntKind.wrap .i64 ((i : Int) - 15) = ((i - 15 : Nat) : Int) := sw64 (by omega) (by omega)
    have e2 : IntKind.wrap .i64 ((i : Int) - 2) = ((i - 2 : Nat) : Int) := sw64 (by omega) (by omega)
    have e16 : IntKind.wrap .i64 ((i : Int) - 16) = ((i - 16 : Nat) : Int) := sw64 (by omega) (by omega)
    have e7 : IntKind.wrap .i64 ((i : Int) - 7) = ((i - 7 : Nat) : Int) := sw64 (by omega) (by omega)
    rw [e15, e2, e16, e7]
    have ld : ∀ jj, jj < i → ldI .u32 ⟨wb, jj, none⟩ h = some ((sched m jj).toNat : Int) := fun jj hjj => sldI_at hb (filU_get hjj)
    have same : ∀ jj, jj < i → SameW [h, h, h, h] (fun H37 => (ldI .u32 ⟨wb, jj, none⟩ H37).bind fun y36 => some (.int .u32 y36)) (.int .u32 ((sched m jj).toNat : Int)) := fun jj hjj H hH => by
      have : H = h := by simpa using hH
      subst this
      show (ldI .u32 ⟨wb, jj, none⟩ H).bind _ = _
      rw [ld jj hjj]; rfl
    refine Gx.Wp.bnd rfl (Gx.Wp.bnd (sidxA (by omega)) (Gx.Wp.bnd (ld _ (by omega)) (Gx.Wp.bnd rfl (Gx.Wp.bnd (sidxA (by omega)) (Gx.Wp.bnd (ld _ (by omega)) ?_)))))
    refine Gx.Wp.bnd (turn_spec K D _ 7 (by decide) h) (Gx.Wp.bnd (turn_spec K D _ 18 (by decide) h) (Gx.Wp.bnd (turn_spec K D _ 17 (by decide) h) (Gx.Wp.bnd (turn_spec K D _ 19 (by decide) h) ?_)))
    refine Gx.Wp.bnd rfl (Gx.Wp.bnd (sidxA (by omega)) (Gx.Wp.bnd (ld _ (by omega)) (Gx.Wp.gp (same _ (by omega)) ?_)))
    refine Gx.Wp.bnd rfl (Gx.Wp.bnd (sidxA (by omega)) (Gx.Wp.bnd (ld _ (by omega)) (Gx.Wp.gp (same _ (by omega)) ?_)))
    refine Gx.Wp.bnd rfl (Gx.Wp.bnd (sidxA (by omega)) ?_)
    have s3 : Int.fdiv ((sched m (i - 15)).toNat : Int) 8 = ((sched m (i - 15) >>> 3).toNat : Int) := shrU _ 3 (by decide)
    have s10 : Int.fdiv ((sched m (i - 2)).toNat : Int) 1024 = ((sched m (i - 2) >>> 10).toNat : Int) := shrU _ 10 (by decide)
    simp only [s3, s10, xorU, addU]
    have ev : sched m (i - 16) + sched m (i - 7) + (rotr (sched m (i - 15)) 7 ^^^ rotr (sched m (i - 15)) 18 ^^^ sched m (i - 15) >>> 3) + (rotr (sched m (i - 2)) 17 ^^^ rotr (sched m (i - 2)) 19 ^^^ sched m (i - 2) >>> 10) = sched m i := by
      rw [sched_hi (i := i) h16]
      unfold sg0 sg1
      ac_rfl
    rw [ev]
    have hst : st1 ⟨wb, i, none⟩ (.int .u32 ((sched m i).toNat : Int)) h = some (h.set wb (.cells (filU (sched m) 64 (i + 1)) 159 true 0)) := by
      rw [st1_of hb (by rw [filU_length (by omega)]; omega) rfl, filU_set (by omega)]
    refine Gx.Wp.bnd hst ?_
    rw [Gx.w1 (by omega)]
    exact ih (i + 1) _ (by omega) (by omega) (kp.set hwb) (by rw [AHeap.get_set, if_neg hyw]; exact hy) (sset_get _ _ _)
theorem words_spec {k0 : Nat} (hk : 100 ≤ k0) (D : CallF) (s : ByteArray) (hs : s.size = 64) (h : AHeap) :
    Gx.Wp (ref02_words k0 D s h) fun r => r.1 = (List.range 64).map (fun i => encU (sched (wAt (bl s)) i)) ∧ Keeps h r.2 := by
  simp only [ref02_words]
  let h1 := h.new (.cells (List.replicate 64 (.int .u32 0)) 159 true 0)
  let h2 := h1.new (.cells (List.replicate 64 (.int .u32 0)) 159 true 0)
  have n1 : h1.next = h.next + 1 := rfl
  have k2 : Keeps h h2 := (Keeps.new h _).trans (Keeps.new h1 _)
  have y2 : h2.get h.next = some (.cells (List.replicate 64 (.int .u32 0)) 159 true 0) := ((Keeps.new h1 _).oth _ (by omega) (fun f => f)).trans (by simp [h1])
  have g2 : h2.get h1.next = some (.cells (filU (sched (wAt (bl s))) 64 0) 159 true 0) := by rw [filU_zero]; simp [h2]
  refine Gx.Wp.jn fun j1 hj1 => ?_
  unfold ref02_words_l1
  obtain ⟨bot1, e1⟩ := iterK_of (fun _ _ _ _ _ => none) (ref02_words_l1b k0 D j1) (show 16 + 1 ≤ k0 by omega)
  rw [e1]
  refine rw_l1 (by omega) D j1 bot1 hs (Nat.le_succ _) (f := sched (wAt (bl s))) (fun i hi => sched_lo hi) (Nat.ne_of_lt (Nat.lt_succ_self _)) ?_ 16 0 h2 (by omega) k2 y2 g2
  intro h3 k3 y3 g3
  subst hj1
  refine Gx.Wp.jn fun j2 hj2 => ?_
  unfold ref02_words_l0
  obtain ⟨bot2, e2⟩ := iterK_of (fun _ _ _ _ => none) (ref02_words_l0b k0 D j2) (show 48 + 1 ≤ k0 by omega)
  rw [e2]
  refine rw_l0 k0 D j2 bot2 (Nat.le_succ _) (Nat.ne_of_lt (Nat.lt_succ_self _)) ?_ 48 16 h3 (by omega) (by omega) k3 y3 g3
  intro h4 k4 y4 g4
  subst hj2
  rw [filU_all] at g4
  obtain ⟨L, hL⟩ : ∃ L, L = (List.range 64).map fun i => encU (sched (wAt (bl s)) i) := ⟨_, rfl⟩
  rw [← hL] at g4 ⊢
  have hlen : L.length = 64 := by rw [hL]; simp
  have l3 := sldA_at (sp := none) g4 hlen
  have s3 := sstL_at (sp := none) y4 (by simp) hlen (by rw [hL]; exact allOne_U _ _) (by decide)
  have l4 := sldA_at (sp := none) (sset_get h4 h.next (.cells L 159 true 0)) hlen
  have hd : decA 64 (.agg ⟨L⟩) = some L := by
    show (bif Nat.beq L.length 64 then some L else none) = some L
    rw [hlen]; rfl
  exact Gx.Wp.bnd rfl (Gx.Wp.bnd l3 (Gx.Wp.bnd rfl (Gx.Wp.bnd s3 (Gx.Wp.bnd rfl (Gx.Wp.bnd l4 (Gx.Wp.bnd hd (Gx.Wp.of ⟨rfl, k4.set (Nat.le_refl _)⟩)))))))
end Gz
namespace Gz
open Go Gx Go.Proofs
theorem fix_be64 (n : Nat) : fixL n 8 = be64 n := by simp [fixL, be64, b8]
theorem fix_out (x : UInt32) : fixL x.toNat 4 = out32 x := by simp [fixL, out32, b8]
theorem must8_spec {kf : Nat} (hkf : 9 ≤ kf) (D : CallF) (n : Nat) (h : AHeap) (hn : n < 9223372036854775808) :
    ∃ h', ref01_Must kf D (n : Int) 8 h = some ((⟨⟨be64 n⟩⟩ : ByteArray), h') ∧ Keeps h h' := by
  rw [← fix_be64]
  simp only [ref01_Must]
  let H := (h.new (.cells ((List.replicate 8 (0 : UInt8)).map encB) 5 true 0)).set h.next (.cells ((fixL n 8).map encB) 5 true 0)
  refine ⟨H, bnd (v := (((⟨⟨fixL n 8⟩⟩ : ByteArray), 0), H)) ?_ rfl, Keeps.set (Keeps.new h _) (Nat.le_refl _)⟩
  simp only [ref01_Fixed]
  refine jn ?_
  refine ifn (by simp) ?_
  refine ifn (by simp) ?_
  refine ifn (by simp <;> omega) ?_
  refine ifn (by simp) ?_
  refine ifn (by decide) ?_
  refine ifp (by omega) ?_
  refine jn ?_
  have e8 : ((8 : Int)).toNat = 8 := rfl
  rw [e8, zeros_bytes]
  unfold ref01_Fixed_l0
  have hb : (h.new (.cells ((List.replicate 8 (0 : UInt8)).map encB) 5 true 0)).get h.next = some (.cells ((fixP n 8 0).map encB) 5 true 0) := by rw [fixP_zero]; simp
  generalize hj : (fun (b7 : Slc) (h8 : AHeap) => (bytesOf h8 b7).bind _) = j
  obtain ⟨bot', e2⟩ := iterK_of (α := rfT) (fun _ _ _ _ => none) (ref01_Fixed_l0b kf D j) (show 8 + 1 ≤ kf by omega)
  rw [e2, w64 ((8 : Int) - 1) (by omega)]
  have := rfix_l0 kf D j bot' (n := n) (k := 8) hn (by omega) (b := h.next) (cap := 8) (sp := some 0) (e := 5) 8 0 _ (by omega) hb
  simp only [Nat.pow_zero, Nat.div_one, Int.natCast_zero, Int.sub_zero] at this
  refine this.trans ?_
  subst hj
  have hg : H.get h.next = some (.cells ((fixL n 8).map encB) 5 true 0) := by simp [H]
  have := bytesOf_out (cap := 8) (sp := some 0) hg
  rw [fixL_length] at this
  exact bnd this rfl
theorem kl_eq : ((List.range 64).map fun i => encU (kAt i)) = shaK.map encU := by
  have e : shaK = (List.range 64).map kAt := by decide +kernel
  rw [e, List.map_map]; rfl
theorem const_spec (k0 : Nat) (D : CallF) (h : AHeap) : ∃ h', ref02_constants k0 D h = some ((List.range 64).map (fun i => encU (kAt i)), h') ∧ Keeps h h' := by
  simp only [ref02_constants]
  have g1 : (h.new (.cells (List.replicate 64 (.int .u32 0)) 159 true 0)).get h.next = some (.cells (List.replicate 64 (.int .u32 0)) 159 true 0) := by simp
  obtain ⟨L, hL⟩ : ∃ L, L = shaK.map encU := ⟨_, rfl⟩
  have hlen : L.length = 64 := by rw [hL]; rfl
  have h1 : allOne L = true := by rw [hL]; rfl
  have s1 := sstL_at (sp := none) g1 (by simp) hlen h1 (by decide)
  have l1 := sldA_at (sp := none) (sset_get (h.new (.cells (List.replicate 64 (.int .u32 0)) 159 true 0)) h.next (.cells L 159 true 0)) hlen
  have hd : decA 64 (.agg ⟨L⟩) = some L := by
    show (bif Nat.beq L.length 64 then some L else none) = some L
    rw [hlen]; rfl
  refine ⟨(h.new (.cells (List.replicate 64 (.int .u32 0)) 159 true 0)).set h.next (.cells L 159 true 0), ?_, Keeps.set (Keeps.new h _) (Nat.le_refl _)⟩
  rw [kl_eq, ← hL]
  have s1' := s1
  rw [hL] at s1'
  refine bnd (v := (h.new (.cells (List.replicate 64 (.int .u32 0)) 159 true 0)).set h.next (.cells L 159 true 0)) ?_ (bnd l1 (bnd hd rfl))
  rw [hL]; exact s1'
theorem rt_l1 (K : Nat) (D : CallF) (j) (bot) {Q : (Int × Int × Int × Int × Int × Int × Int × Int) × AHeap → Prop} {h0 : AHeap} {m : Nat → UInt32} {lp yp : Option Addr} {wb kb vb : Nat} (hwv : wb ≠ vb) (hkv : kb ≠ vb) {gw gk : ABlk}
    (egw : gw = .cells ((List.range 64).map fun i => encU (m i)) 159 true 0) (egk : gk = .cells ((List.range 64).map fun i => encU (kAt i)) 159 true 0) (s : St)
    (hj : ∀ h, Chg (fun x => x = vb) h0 h → h.get vb = some (.cells ((wl (rounds kAt m 64 s)).map encU) 104 true 0) → Gx.Wp (j lp yp (some ⟨vb, 0, none⟩) h) Q) :
    ∀ (d i : Nat) (h : AHeap), i + d = 64 → Chg (fun x => x = vb) h0 h → h.get wb = some gw → h.get kb = some gk → h.get vb = some (.cells ((wl (rounds kAt m i s)).map encU) 104 true 0) →
      Gx.Wp (iterK bot (d + 1) (ref02_take_l1b K D j) lp yp (some ⟨wb, 0, none⟩) (some ⟨kb, 0, none⟩) (some ⟨vb, 0, none⟩) (i : Int) h) Q := fun d => by
  induction d with
  | zero =>
    intro i h hi kp hw hk hv
    rw [iterK_s]; simp only [ref02_take_l1b]
    obtain rfl : i = 64 := by omega
    exact Gx.Wp.ifn (by simp) (hj h kp hv)
  | succ d ih =>
    intro i h hi kp hw hk hv
    rw [iterK_s]; simp only [ref02_take_l1b]
    refine Gx.Wp.ifp (by simp; omega) ?_
    obtain ⟨t, ht⟩ : ∃ t, t = rounds kAt m i s := ⟨_, rfl⟩
    rw [← ht] at hv
    have ldv : ∀ {jj : Nat} {x : UInt32}, (wl t)[jj]? = some x → ldI .u32 ⟨vb, jj, none⟩ h = some (x.toNat : Int) := fun {jj x} hx' => sldI_at hv (by rw [List.getElem?_map, hx']; rfl)
    have ldw : ldI .u32 ⟨wb, i, none⟩ h = some ((m i).toNat : Int) := by
      rw [egw] at hw
      exact sldI_at hw (by rw [List.getElem?_map, List.getElem?_range (by omega)]; rfl)
    have ldk : ldI .u32 ⟨kb, i, none⟩ h = some ((kAt i).toNat : Int) := by
      rw [egk] at hk
      exact sldI_at hk (by rw [List.getElem?_map, List.getElem?_range (by omega)]; rfl)
    have same : ∀ {q : Addr} {x : UInt32}, ldI .u32 q h = some (x.toNat : Int) → SameW [h, h, h] (fun H78 => (ldI .u32 q H78).bind fun y77 => some (.int .u32 y77)) (.int .u32 (x.toNat : Int)) := fun {q x} hq H hH => by
      have : H = h := by simpa using hH
      subst this
      show (ldI .u32 q H).bind _ = _
      rw [hq]; rfl
    refine Gx.Wp.bnd rfl (Gx.Wp.bnd (ldv (jj := 0) rfl) (Gx.Wp.bnd rfl (Gx.Wp.bnd (ldv (jj := 1) rfl) (Gx.Wp.bnd rfl (Gx.Wp.bnd (ldv (jj := 2) rfl) (Gx.Wp.bnd rfl (Gx.Wp.bnd (ldv (jj := 4) rfl) (Gx.Wp.bnd rfl (Gx.Wp.bnd (ldv (jj := 5) rfl) (Gx.Wp.bnd rfl (Gx.Wp.bnd (ldv (jj := 6) rfl) ?_)))))))))))
    refine Gx.Wp.bnd (turn_spec K D _ 6 (by decide) h) (Gx.Wp.bnd (turn_spec K D _ 11 (by decide) h) (Gx.Wp.bnd (turn_spec K D _ 25 (by decide) h) ?_))
    refine Gx.Wp.bnd rfl (Gx.Wp.bnd (ldv (jj := 7) rfl) (Gx.Wp.gp (same (ldv (jj := 7) rfl)) ?_))
    refine Gx.Wp.bnd rfl (Gx.Wp.bnd (sidxA (by omega)) (Gx.Wp.bnd ldk (Gx.Wp.gp (same ldk) ?_)))
    refine Gx.Wp.bnd rfl (Gx.Wp.bnd (sidxA (by omega)) (Gx.Wp.bnd ldw (Gx.Wp.gp (same ldw) ?_)))
    refine Gx.Wp.bnd (turn_spec K D _ 2 (by decide) h) (Gx.Wp.bnd (turn_spec K D _ 13 (by decide) h) (Gx.Wp.bnd (turn_spec K D _ 22 (by decide) h) ?_))
    refine Gx.Wp.bnd rfl (Gx.Wp.bnd (ldv (jj := 3) rfl) (Gx.Wp.bnd rfl ?_))
    simp only [xorU, andU, andNotU, addU]
    have hst : stL 8 ⟨vb, 0, none⟩ ((wl (rnd (kAt i) (m i) t)).map encU) h = some (h.set vb (.cells ((wl (rnd (kAt i) (m i) t)).map encU) 104 true 0)) := sstL_at hv rfl rfl rfl (by decide)
    have ech : (t.e &&& t.f) ^^^ (t.g &&& ~~~t.e) = chO t.e t.f t.g := by unfold chO; rw [UInt32.and_comm t.g]
    rw [ech]
    refine Gx.Wp.bnd hst ?_
    rw [Gx.w1 (by omega)]
    refine ih (i + 1) _ (by omega) (kp.trans (Chg.set (.inr rfl))) (by rw [AHeap.get_set, if_neg hwv]; exact hw) (by rw [AHeap.get_set, if_neg hkv]; exact hk) ?_
    rw [sset_get, ht]; rfl
theorem rt_l0 (K : Nat) (D : CallF) (j) (bot) {Q : (Int × Int × Int × Int × Int × Int × Int × Int) × AHeap → Prop} {h0 : AHeap} {yp : Option Addr} {lb vb : Nat} (hlv : lb ≠ vb) {s t : St}
    (hj : ∀ h, Chg (fun x => x = lb) h0 h → h.get lb = some (.cells ((wl (addSt s t)).map encU) 104 true 0) → Gx.Wp (j (some ⟨lb, 0, none⟩) yp h) Q) :
    ∀ (d i : Nat) (h : AHeap) (l : List UInt32), i + d = 8 → l.length = 8 → (∀ j x y, j < i → (wl s)[j]? = some x → (wl t)[j]? = some y → l[j]? = some (x + y)) → (∀ j, i ≤ j → l[j]? = (wl s)[j]?) → h.get lb = some (.cells (l.map encU) 104 true 0) → h.get vb = some (.cells ((wl t).map encU) 104 true 0) → Chg (fun x => x = lb) h0 h →
      Gx.Wp (iterK bot (d + 1) (ref02_take_l0b K D j) (some ⟨lb, 0, none⟩) yp (some ⟨vb, 0, none⟩) (i : Int) h) Q := fun d => by
  induction d with
  | zero =>
    intro i h l hi hl l1 l2 hg hv kp
    rw [iterK_s]; simp only [ref02_take_l0b]
    obtain rfl : i = 8 := by omega
    refine Gx.Wp.ifn (by simp) (hj h kp ?_)
    have e : l = wl (addSt s t) := by
      apply List.ext_getElem?
      intro j
      by_cases hj : j < 8
      · obtain ⟨x, hx⟩ := isome (l := wl s) (i := j) hj
        obtain ⟨y, hy⟩ := isome (l := wl t) (i := j) hj
        rw [l1 j x y hj hx hy]
        match j, hj with
        | 0, _ => cases hx; cases hy; rfl
        | 1, _ => cases hx; cases hy; rfl
        | 2, _ => cases hx; cases hy; rfl
        | 3, _ => cases hx; cases hy; rfl
        | 4, _ => cases hx; cases hy; rfl
        | 5, _ => cases hx; cases hy; rfl
        | 6, _ => cases hx; cases hy; rfl
        | 7, _ => cases hx; cases hy; rfl
        | n + 8, h => omega
      · rw [List.getElem?_eq_none (by omega), List.getElem?_eq_none (by rw [wl_length]; omega)]
    rw [← e]; exact hg
  | succ d ih =>
    intro i h l hi hl l1 l2 hg hv kp
    rw [iterK_s]; simp only [ref02_take_l0b]
    refine Gx.Wp.ifp (by simp; omega) ?_
    obtain ⟨x, hxs⟩ := isome (l := wl s) (i := i) (by rw [wl_length]; omega)
    obtain ⟨y, hyt⟩ := isome (l := wl t) (i := i) (by rw [wl_length]; omega)
    have hlx : l[i]? = some x := by rw [l2 i (Nat.le_refl _), hxs]
    have ll : ldI .u32 ⟨lb, i, none⟩ h = some (x.toNat : Int) := sldI_at hg (by rw [List.getElem?_map, hlx]; rfl)
    have lv : ldI .u32 ⟨vb, i, none⟩ h = some (y.toNat : Int) := sldI_at hv (by rw [List.getElem?_map, hyt]; rfl)
    refine Gx.Wp.bnd rfl (Gx.Wp.bnd (sidxA (by omega)) (Gx.Wp.bnd ll (Gx.Wp.bnd rfl (Gx.Wp.bnd (sidxA (by omega)) (Gx.Wp.bnd lv (Gx.Wp.bnd rfl (Gx.Wp.bnd (sidxA (by omega)) ?_)))))))
    rw [addU]
    have hst : st1 ⟨lb, i, none⟩ (.int .u32 ((x + y).toNat : Int)) h = some (h.set lb (.cells ((l.set i (x + y)).map encU) 104 true 0)) := by
      rw [st1_of hg (by rw [List.length_map]; omega) rfl, List.map_set]; rfl
    refine Gx.Wp.bnd hst ?_
    rw [Gx.w1 (by omega)]
    refine ih (i + 1) _ (l.set i (x + y)) (by omega) (by simpa using hl) (fun j x' y' hj hx' hy' => ?_) (fun j hj => ?_) (sset_get _ _ _) (by rw [AHeap.get_set, if_neg (fun e => hlv e.symm)]; exact hv) (kp.trans (Chg.set (.inr rfl)))
    · by_cases e : j = i
      · subst e
        rw [hxs] at hx'; rw [hyt] at hy'
        cases hx'; cases hy'
        rw [List.getElem?_set_self (by omega)]
      · rw [List.getElem?_set_ne (fun q => e q.symm)]
        exact l1 j x' y' (by omega) hx' hy'
    · rw [List.getElem?_set_ne (by omega)]
      exact l2 j (by omega)
def tup (s : St) : Int × Int × Int × Int × Int × Int × Int × Int := ((s.a.toNat : Int), (s.b.toNat : Int), (s.c.toNat : Int), (s.d.toNat : Int), (s.e.toNat : Int), (s.f.toNat : Int), (s.g.toNat : Int), (s.h.toNat : Int))
theorem rtake_spec {k0 : Nat} (hk : 100 ≤ k0) (D : CallF) (s : St) (b : ByteArray) (hb : b.size = 64) (h : AHeap) :
    Gx.Wp (ref02_take k0 D (tup s) b h) fun q => q.1 = tup (comp s (bl b)) ∧ Keeps h q.2 := by
  simp only [ref02_take]
  let h1 := h.new (.cells ((wl s).map encU) 104 true 0)
  let h2 := h1.new (.cells [.int .u32 0, .int .u32 0, .int .u32 0, .int .u32 0, .int .u32 0, .int .u32 0, .int .u32 0, .int .u32 0] 104 true 0)
  have n1 : h1.next = h.next + 1 := rfl
  have n2 : h2.next = h.next + 2 := rfl
  have k2 : Keeps h h2 := (Keeps.new h _).trans (Keeps.new h1 _)
  have x2 : h2.get h.next = some (.cells ((wl s).map encU) 104 true 0) := ((Keeps.new h1 _).oth _ (by omega) (fun f => f)).trans (by simp [h1])
  have y2 : h2.get h1.next = some (.cells [.int .u32 0, .int .u32 0, .int .u32 0, .int .u32 0, .int .u32 0, .int .u32 0, .int .u32 0, .int .u32 0] 104 true 0) := by simp [h2]
  obtain ⟨⟨W, h3⟩, r3, eW, k3⟩ := words_spec hk D b hb h2
  simp only at eW k3
  refine Gx.Wp.bnd r3 ?_
  let h4 := h3.new (.cells (List.replicate 64 (.int .u32 0)) 159 true 0)
  have g4 : h4.get h3.next = some (.cells (List.replicate 64 (.int .u32 0)) 159 true 0) := by simp [h4]
  have lW : W.length = 64 := by rw [eW]; simp
  have s5 := sstL_at (sp := none) g4 (by simp) lW (by rw [eW]; exact allOne_U _ _) (by decide)
  obtain ⟨h5, e5⟩ : ∃ h5, h5 = h4.set h3.next (.cells W 159 true 0) := ⟨_, rfl⟩
  refine Gx.Wp.bnd s5 ?_
  rw [← e5]
  have k5 : Keeps h3 h5 := by rw [e5]; exact Keeps.set (Keeps.new h3 _) (Nat.le_refl _)
  have w5 : h5.get h3.next = some (.cells W 159 true 0) := by rw [e5]; exact sset_get _ _ _
  have n5 : h5.next = h3.next + 1 := by rw [e5]; rfl
  obtain ⟨h6, r6, k6⟩ := const_spec k0 D h5
  refine Gx.Wp.bnd r6 ?_
  let h7 := h6.new (.cells (List.replicate 64 (.int .u32 0)) 159 true 0)
  have g7 : h7.get h6.next = some (.cells (List.replicate 64 (.int .u32 0)) 159 true 0) := by simp [h7]
  obtain ⟨KL, eKL⟩ : ∃ KL, KL = (List.range 64).map fun i => encU (kAt i) := ⟨_, rfl⟩
  simp only
  rw [← eKL]
  have lK : KL.length = 64 := by rw [eKL]; simp
  have s8 := sstL_at (sp := none) g7 (by simp) lK (by rw [eKL]; exact allOne_U _ _) (by decide)
  obtain ⟨h8, e8⟩ : ∃ h8, h8 = h7.set h6.next (.cells KL 159 true 0) := ⟨_, rfl⟩
  refine Gx.Wp.bnd s8 ?_
  rw [← e8]
  have k8 : Keeps h6 h8 := by rw [e8]; exact Keeps.set (Keeps.new h6 _) (Nat.le_refl _)
  have q8 : h8.get h6.next = some (.cells KL 159 true 0) := by rw [e8]; exact sset_get _ _ _
  have n8 : h8.next = h6.next + 1 := by rw [e8]; rfl
  have m3 := k3.nx; have m5 := k5.nx; have m6 := k6.nx
  have K28 : Keeps h2 h8 := k3.trans (k5.trans (k6.trans k8))
  have x8 : h8.get h.next = some (.cells ((wl s).map encU) 104 true 0) := (K28.oth _ (by omega) (fun f => f)).trans x2
  have y8 : h8.get h1.next = some (.cells [.int .u32 0, .int .u32 0, .int .u32 0, .int .u32 0, .int .u32 0, .int .u32 0, .int .u32 0, .int .u32 0] 104 true 0) := (K28.oth _ (by omega) (fun f => f)).trans y2
  have w8 : h8.get h3.next = some (.cells W 159 true 0) := ((k6.trans k8).oth _ (by omega) (fun f => f)).trans w5
  refine Gx.Wp.bnd (sldA_at x8 rfl) (Gx.Wp.bnd (show decC [.i .u32, .i .u32, .i .u32, .i .u32, .i .u32, .i .u32, .i .u32, .i .u32] ((wl s).map encU) = some (tup s) from rfl) ?_)
  let h11 := h8.new (.cells [.int .u32 0, .int .u32 0, .int .u32 0, .int .u32 0, .int .u32 0, .int .u32 0, .int .u32 0, .int .u32 0] 104 true 0)
  have g11 : h11.get h8.next = some (.cells [.int .u32 0, .int .u32 0, .int .u32 0, .int .u32 0, .int .u32 0, .int .u32 0, .int .u32 0, .int .u32 0] 104 true 0) := by simp [h11]
  have s12 : stL 8 ⟨h8.next, 0, none⟩ ((wl s).map encU) h11 = _ := sstL_at (sp := none) g11 rfl rfl rfl (by decide)
  obtain ⟨h12, e12⟩ : ∃ h12, h12 = h11.set h8.next (.cells ((wl s).map encU) 104 true 0) := ⟨_, rfl⟩
  refine Gx.Wp.bnd s12 ?_
  rw [← e12]
  have k12 : Keeps h8 h12 := by rw [e12]; exact Keeps.set (Keeps.new h8 _) (Nat.le_refl _)
  have v12 : h12.get h8.next = some (.cells ((wl s).map encU) 104 true 0) := by rw [e12]; exact sset_get _ _ _
  have n12 : h12.next = h8.next + 1 := by rw [e12]; rfl
  have x12 := (k12.oth h.next (by omega) (fun f => f)).trans x8
  have y12 := (k12.oth h1.next (by omega) (fun f => f)).trans y8
  have w12 := (k12.oth h3.next (by omega) (fun f => f)).trans w8
  have q12 := (k12.oth h6.next (by omega) (fun f => f)).trans q8
  have K12 : Keeps h h12 := k2.trans (K28.trans k12)
  refine Gx.Wp.jn fun j1 hj1 => ?_
  unfold ref02_take_l1
  obtain ⟨bot1, b1⟩ := iterK_of (fun _ _ _ _ _ _ _ => none) (ref02_take_l1b k0 D j1) (show 64 + 1 ≤ k0 by omega)
  rw [b1]
  refine rt_l1 k0 D j1 bot1 (h0 := h12) (m := sched (wAt (bl b))) (wb := h3.next) (kb := h6.next) (vb := h8.next) (by omega) (by omega) (congrArg (fun z => ABlk.cells z 159 true 0) eW) (congrArg (fun z => ABlk.cells z 159 true 0) eKL) s ?_ 64 0 h12 (by omega) (Chg.refl _ _) w12 q12 v12
  intro h13 c13 v13
  subst hj1
  refine Gx.Wp.jn fun j2 hj2 => ?_
  unfold ref02_take_l0
  obtain ⟨bot2, b2⟩ := iterK_of (fun _ _ _ _ _ => none) (ref02_take_l0b k0 D j2) (show 8 + 1 ≤ k0 by omega)
  rw [b2]
  have x13 := (c13.oth h.next (by omega) (fun e => by have e : h.next = h8.next := e; omega)).trans x12
  have y13 := (c13.oth h1.next (by omega) (fun e => by have e : h1.next = h8.next := e; omega)).trans y12
  have m13 := c13.nx
  refine rt_l0 k0 D j2 bot2 (h0 := h13) (lb := h.next) (vb := h8.next) (s := s) (t := rounds kAt (sched (wAt (bl b))) 64 s) (by omega) ?_ 8 0 h13 (wl s) (by omega) rfl (fun j x y hj => by omega) (fun j _ => rfl) x13 v13 (Chg.refl _ _)
  intro h14 c14 l14
  subst hj2
  have y14 := (c14.oth h1.next (by omega) (fun e => by have e : h1.next = h.next := e; omega)).trans y13
  have st : stL 8 ⟨h1.next, 0, none⟩ ((wl (addSt s (rounds kAt (sched (wAt (bl b))) 64 s))).map encU) h14 = _ := sstL_at (sp := none) y14 rfl rfl rfl (by decide)
  have l15 := sldA_at (sp := none) (sset_get h14 h1.next (.cells ((wl (addSt s (rounds kAt (sched (wAt (bl b))) 64 s))).map encU) 104 true 0)) rfl
  refine Gx.Wp.bnd rfl (Gx.Wp.bnd (sldA_at l14 rfl) (Gx.Wp.bnd (show decC [.i .u32, .i .u32, .i .u32, .i .u32, .i .u32, .i .u32, .i .u32, .i .u32] ((wl (addSt s (rounds kAt (sched (wAt (bl b))) 64 s))).map encU) = some (tup (addSt s (rounds kAt (sched (wAt (bl b))) 64 s))) from rfl) ?_))
  refine Gx.Wp.bnd rfl (Gx.Wp.bnd st (Gx.Wp.bnd rfl (Gx.Wp.bnd l15 (Gx.Wp.bnd (show decC [.i .u32, .i .u32, .i .u32, .i .u32, .i .u32, .i .u32, .i .u32, .i .u32] ((wl (addSt s (rounds kAt (sched (wAt (bl b))) 64 s))).map encU) = some (tup (addSt s (rounds kAt (sched (wAt (bl b))) 64 s))) from rfl) (Gx.Wp.of ⟨rfl, ?_⟩)))))
  have K13 : Keeps h h13 := Chg.beh K12 c13 fun x hx e => by have e : x = h8.next := e; omega
  have K14 : Keeps h h14 := Chg.beh K13 c14 fun x hx e => by have e : x = h.next := e; omega
  exact Keeps.set K14 (by omega)
theorem dg_l2 {k0 : Nat} (D : CallF) (j) (bot) {Q : ByteArray × AHeap → Prop} {n : Nat} (hn : n ≤ 90000000) {b : List UInt8} (hb : b.length = n) {h : AHeap}
    (hj : Gx.Wp (j (⟨⟨b ++ (128 :: List.replicate (zeroN n) 0)⟩⟩ : ByteArray) (n : Int) h) Q) :
    ∀ (d i : Nat), i + d = zeroN n → Gx.Wp (iterK bot (d + 1) (ref02_Digest_l2b k0 D j) (⟨⟨b ++ (128 :: List.replicate i 0)⟩⟩ : ByteArray) (n : Int) h) Q := fun d => by
  have hz : zeroN n < 64 := Nat.mod_lt _ (by decide)
  induction d with
  | zero =>
    intro i hi
    rw [iterK_s]; simp only [ref02_Digest_l2b]
    obtain rfl : i = zeroN n := by omega
    have sz : (⟨⟨b ++ (128 :: List.replicate (zeroN n) 0)⟩⟩ : ByteArray).size = n + 1 + zeroN n := by rw [size_mk, List.length_append, List.length_cons, List.length_replicate, hb]; omega
    have e : Int.tmod ((⟨⟨b ++ (128 :: List.replicate (zeroN n) 0)⟩⟩ : ByteArray).size : Int) 64 = 56 := by
      rw [sz, Int.tmod_eq_emod_of_nonneg (by omega)]
      unfold zeroN; omega
    rw [e]
    exact Gx.Wp.ifn (by decide) hj
  | succ d ih =>
    intro i hi
    rw [iterK_s]; simp only [ref02_Digest_l2b]
    have sz : (⟨⟨b ++ (128 :: List.replicate i 0)⟩⟩ : ByteArray).size = n + 1 + i := by rw [size_mk, List.length_append, List.length_cons, List.length_replicate, hb]; omega
    have e : Int.tmod ((⟨⟨b ++ (128 :: List.replicate i 0)⟩⟩ : ByteArray).size : Int) 64 ≠ 56 := by
      rw [sz, Int.tmod_eq_emod_of_nonneg (by omega)]
      unfold zeroN at hi; omega
    refine Gx.Wp.ifp (by simpa using e) (Gx.Wp.ifp (by rw [sz]; show n + 1 + i + 1 ≤ _; omega) ?_)
    have ea : (⟨⟨b ++ (128 :: List.replicate i 0)⟩⟩ : ByteArray) ++ (⟨#[0]⟩ : ByteArray) = ⟨⟨b ++ (128 :: List.replicate (i + 1) 0)⟩⟩ := by
      have := ba_app (b ++ (128 :: List.replicate i 0)) [0]
      rw [List.append_assoc, List.cons_append, ← List.replicate_succ'] at this
      exact this
    rw [ea]
    exact ih (i + 1) (by omega)
theorem dg_l1 {k0 : Nat} (hk : 100 ≤ k0) (D : CallF) (j) (bot) {Q : ByteArray × AHeap → Prop} {lb : Nat} {s : ByteArray} (hs : s.size ≤ 100000000) (hm : s.size % 64 = 0) {s0 : St} {h0 : AHeap}
    (hj : ∀ h, Chg (fun x => x = lb) h0 h → h.get lb = some (.cells ((wl (absorb s0 (bl s))).map encU) 104 true 0) → Gx.Wp (j (some ⟨lb, 0, none⟩) h) Q) (hlb : lb < h0.next) :
    ∀ (d i : Nat) (t : St) (h : AHeap), i + 64 * d = s.size → absorb t ((bl s).drop i) = absorb s0 (bl s) → Chg (fun x => x = lb) h0 h → h.get lb = some (.cells ((wl t).map encU) 104 true 0) →
      Gx.Wp (iterK bot (d + 1) (ref02_Digest_l1b k0 D j) s (some ⟨lb, 0, none⟩) (i : Int) h) Q := fun d => by
  induction d with
  | zero =>
    intro i t h hi ha c hg
    rw [iterK_s]; simp only [ref02_Digest_l1b]
    have e : absorb t ((bl s).drop i) = t := absorb_lt (by rw [List.length_drop, bl_length]; omega)
    rw [e] at ha
    subst ha
    exact Gx.Wp.ifn (by simp; omega) (hj h c hg)
  | succ d ih =>
    intro i t h hi ha c hg
    rw [iterK_s]; simp only [ref02_Digest_l1b]
    refine Gx.Wp.ifp (by simp; omega) ?_
    have e64 : IntKind.wrap .i64 ((i : Int) + 64) = ((i + 64 : Nat) : Int) := sw64 (by omega) (by omega)
    have hsub := subS_of (s := s) (lo := some (i : Int)) (hi := some ((i + 64 : Nat) : Int)) (i := i) (j := i + 64) rfl rfl (by omega) (by omega)
    rw [e64]
    refine Gx.Wp.bnd rfl (Gx.Wp.bnd (sldA_at hg rfl) (Gx.Wp.bnd (show decC [.i .u32, .i .u32, .i .u32, .i .u32, .i .u32, .i .u32, .i .u32, .i .u32] ((wl t).map encU) = some (tup t) from rfl) (Gx.Wp.bnd hsub ?_)))
    have szb : (⟨⟨((bl s).take (i + 64)).drop i⟩⟩ : ByteArray).size = 64 := by rw [size_mk, List.length_drop, List.length_take, bl_length]; omega
    refine Gx.Wp.call (rtake_spec hk D t _ szb h) fun q ⟨q1, q2⟩ => ?_
    obtain ⟨v, h1⟩ := q
    simp only at q1 q2 ⊢
    subst q1
    have hg1 := (q2.oth lb (Nat.lt_of_lt_of_le hlb c.nx) (fun f => f)).trans hg
    obtain ⟨u, hu⟩ : ∃ u, u = comp t (bl (⟨⟨((bl s).take (i + 64)).drop i⟩⟩ : ByteArray)) := ⟨_, rfl⟩
    rw [← hu]
    have st : stL 8 ⟨lb, 0, none⟩ ((wl u).map encU) h1 = _ := sstL_at (sp := none) hg1 rfl rfl rfl (by decide)
    refine Gx.Wp.bnd rfl (Gx.Wp.bnd st ?_)
    refine ih (i + 64) u _ (by omega) ?_ (c.trans ((q2.keeps).trans (Chg.set (.inr rfl)))) (sset_get _ _ _)
    rw [← ha, absorb_ge (l := (bl s).drop i) (by rw [List.length_drop, bl_length]; omega), List.drop_drop, hu, bl_mk]
    congr 2
    rw [List.drop_take, show i + 64 - i = 64 by omega]
theorem dg_l0 {k0 : Nat} (hk : 9 ≤ k0) (D : CallF) (j) (bot) {Q : ByteArray × AHeap → Prop} {lb : Nat} {s : St} {h0 : AHeap} (hlb : lb < h0.next)
    (hg0 : h0.get lb = some (.cells ((wl s).map encU) 104 true 0)) (hj : ∀ h, Keeps h0 h → Gx.Wp (j (⟨⟨outSt s⟩⟩ : ByteArray) h) Q) :
    ∀ (d i : Nat) (h : AHeap), i + d = 8 → Keeps h0 h → Gx.Wp (iterK bot (d + 1) (ref02_Digest_l0b k0 D j) (some ⟨lb, 0, none⟩) (⟨⟨(((wl s).take i).map out32).flatten⟩⟩ : ByteArray) (i : Int) h) Q := fun d => by
  have hflat : ∀ l : List UInt32, (l.map out32).flatten.length = 4 * l.length := fun l => by
    induction l with
    | nil => rfl
    | cons y l ih => rw [List.map_cons, List.flatten_cons, List.length_append, ih]; simp [out32]; omega
  induction d with
  | zero =>
    intro i h hi kp
    rw [iterK_s]; simp only [ref02_Digest_l0b]
    obtain rfl : i = 8 := by omega
    refine Gx.Wp.ifn (by simp) ?_
    have := hj h kp
    rw [out_flat] at this
    exact this
  | succ d ih =>
    intro i h hi kp
    rw [iterK_s]; simp only [ref02_Digest_l0b]
    refine Gx.Wp.ifp (by simp; omega) ?_
    obtain ⟨x, hx⟩ := isome (l := wl s) (i := i) (by rw [wl_length]; omega)
    have hg := (kp.oth lb hlb (fun f => f)).trans hg0
    have ll : ldI .u32 ⟨lb, i, none⟩ h = some (x.toNat : Int) := sldI_at hg (by rw [List.getElem?_map, hx]; rfl)
    have hx2 := u32_lt x
    obtain ⟨h1, r1, k1⟩ := must_spec (kf := k0) hk D x.toNat 4 h (by decide) (by decide) (by omega) (by omega)
    have ew : IntKind.wrap .i64 (x.toNat : Int) = (x.toNat : Int) := w64 _ (by omega)
    rw [fix_out] at r1
    refine Gx.Wp.bnd rfl (Gx.Wp.bnd (sidxA (by omega)) (Gx.Wp.bnd ll ?_))
    rw [ew]
    refine Gx.Wp.bnd r1 ?_
    have s1 : (⟨⟨(((wl s).take i).map out32).flatten⟩⟩ : ByteArray).size ≤ 32 := by rw [size_mk, hflat, List.length_take, wl_length]; omega
    refine Gx.Wp.ifp (by
      have : (⟨⟨out32 x⟩⟩ : ByteArray).size = 4 := rfl
      simp only [this]
      omega) ?_
    rw [Gx.w1 (by omega), ba_app]
    have := ih (i + 1) h1 (by omega) (kp.trans k1)
    rw [List.take_add_one, hx] at this
    simpa using this
theorem digest_spec {k0 : Nat} (hk : 200 ≤ k0) (D : CallF) (s : ByteArray) (hs : s.size ≤ 90000000) (hks : s.size < 32 * k0) (h : AHeap) : Gx.Wp (ref02_Digest k0 D s h) fun q => q.1 = digB s ∧ Keeps h q.2 := by
  simp only [ref02_Digest]
  refine Gx.Wp.ifp (by show s.size + 1 ≤ _; omega) ?_
  refine Gx.Wp.jn fun j2 hj2 => ?_
  unfold ref02_Digest_l2
  have hz : zeroN s.size < 64 := Nat.mod_lt _ (by decide)
  obtain ⟨bot2, b2⟩ := iterK_of (fun _ _ _ => none) (ref02_Digest_l2b k0 D j2) (show zeroN s.size + 1 ≤ k0 by omega)
  rw [b2]
  have e0 : s ++ (⟨#[128]⟩ : ByteArray) = ⟨⟨bl s ++ (128 :: List.replicate 0 0)⟩⟩ := ba_app (bl s) [128]
  rw [e0]
  refine dg_l2 (k0 := k0) D j2 bot2 hs (bl_length s) ?_ (zeroN s.size) 0 (by omega)
  subst hj2
  dsimp only
  have e8 : IntKind.wrap .i64 ((s.size : Int) * 8) = ((s.size * 8 : Nat) : Int) := sw64 (by omega) (by omega)
  rw [e8]
  obtain ⟨h5, r5, k5⟩ := must8_spec (kf := k0) (by omega) D (s.size * 8) h (by omega)
  refine Gx.Wp.bnd r5 ?_
  have sz1 : (⟨⟨bl s ++ (128 :: List.replicate (zeroN s.size) 0)⟩⟩ : ByteArray).size = s.size + 1 + zeroN s.size := by rw [size_mk, List.length_append, List.length_cons, List.length_replicate, bl_length]; omega
  refine Gx.Wp.ifp (by
    have : (⟨⟨be64 (s.size * 8)⟩⟩ : ByteArray).size = 8 := rfl
    simp only [this, sz1]
    omega) ?_
  obtain ⟨w, hw⟩ : ∃ w : ByteArray, w = (⟨⟨bl s ++ (128 :: List.replicate (zeroN s.size) 0)⟩⟩ : ByteArray) ++ (⟨⟨be64 (s.size * 8)⟩⟩ : ByteArray) := ⟨_, rfl⟩
  have blw : bl w = bl s ++ padT s.size := by
    rw [hw, ba_app, bl_mk, List.append_assoc]; rfl
  have szw : w.size = s.size + 1 + zeroN s.size + 8 := by
    rw [← bl_length, blw, List.length_append, bl_length]
    simp only [padT, List.length_append, List.length_cons, List.length_replicate, be64_length]
    omega
  have hm : w.size % 64 = 0 := by rw [szw]; unfold zeroN; omega
  let h6 := h5.new (.cells [.int .u32 0, .int .u32 0, .int .u32 0, .int .u32 0, .int .u32 0, .int .u32 0, .int .u32 0, .int .u32 0] 104 true 0)
  have g6 : h6.get h5.next = some (.cells [.int .u32 0, .int .u32 0, .int .u32 0, .int .u32 0, .int .u32 0, .int .u32 0, .int .u32 0, .int .u32 0] 104 true 0) := by simp [h6]
  have s7 : stL 8 ⟨h5.next, 0, none⟩ ((wl st0).map encU) h6 = _ := sstL_at (sp := none) g6 rfl rfl rfl (by decide)
  refine Gx.Wp.bnd s7 ?_
  obtain ⟨h7, e7⟩ : ∃ h7, h7 = h6.set h5.next (.cells ((wl st0).map encU) 104 true 0) := ⟨_, rfl⟩
  rw [← e7]
  have k7 : Keeps h5 h7 := by rw [e7]; exact Keeps.set (Keeps.new h5 _) (Nat.le_refl _)
  have g7 : h7.get h5.next = some (.cells ((wl st0).map encU) 104 true 0) := by rw [e7]; exact sset_get _ _ _
  have n7 : h7.next = h5.next + 1 := by rw [e7]; rfl
  refine Gx.Wp.jn fun j1 hj1 => ?_
  simp only
  rw [← hw]
  unfold ref02_Digest_l1
  obtain ⟨d, hd⟩ : ∃ d, 64 * d = w.size := ⟨w.size / 64, by omega⟩
  obtain ⟨bot1, b1⟩ := iterK_of (fun _ _ _ _ => none) (ref02_Digest_l1b k0 D j1) (show d + 1 ≤ k0 by omega)
  rw [b1]
  refine dg_l1 (by omega) D j1 bot1 (by omega) hm (s0 := st0) (h0 := h7) ?_ (by omega) d 0 st0 h7 (by omega) rfl (Chg.refl _ _) g7
  intro h8 c8 g8
  subst hj1
  refine Gx.Wp.jn fun j0 hj0 => ?_
  unfold ref02_Digest_l0
  obtain ⟨bot0, b0⟩ := iterK_of (fun _ _ _ _ => none) (ref02_Digest_l0b k0 D j0) (show 8 + 1 ≤ k0 by omega)
  rw [b0]
  have k8 : Keeps h h8 := Chg.beh (k5.trans k7) c8 fun x hx e => by have e : x = h5.next := e; have := k5.nx; omega
  refine dg_l0 (by omega) D j0 bot0 (h0 := h8) (Nat.lt_of_lt_of_le (by omega) c8.nx) g8 ?_ 8 0 h8 (by omega) (Chg.refl _ _)
  intro h9 k9
  subst hj0
  refine Gx.Wp.of ⟨?_, k8.trans k9⟩
  show (⟨⟨outSt (absorb st0 (bl w))⟩⟩ : ByteArray) = digB s
  unfold digB digest
  rw [blw, bl_length]
end Gz
namespace Gz
open Go Gx Go.Proofs
theorem rmk_l0 {k0 : Nat} (hk0 : 70000 ≤ k0) (D : CallF) (bot) {k m : Nat} (hk : 0 < k) (hR : k + m ≤ 255) {data : ByteArray} (hd : data.size ≤ 65536) {h0 : AHeap} {y : Slc} (R : Row encS h0 y (shardsL k m data)) :
    ∀ (d i : Nat) (o : Slc) (h : AHeap), i + d = k + m → Keeps h0 h → Acc encS 9 h0.next h o ((List.range i).map (txt k m data)) →
      Gx.Wp (iterK bot (d + 1) (ref06_Make_l0b k0 D fun (out5 : Slc) (h6 : AHeap) => some ((out5, 0), h6)) (k : Int) (m : Int) data y (digB data) o (i : Int) h) fun q => q.1.2 = 0 ∧ Keeps h0 q.2 ∧ Acc encS 9 h0.next q.2 q.1.1 ((List.range (k + m)).map (txt k m data)) := fun d => by
  have hlen : y.len = k + m := by rw [R.1, shardsL_length]
  induction d with
  | zero =>
    intro i o h hi kp A
    rw [iterK_s]; simp only [ref06_Make_l0b]
    obtain rfl : i = k + m := by omega
    exact Gx.Wp.ifn (by rw [hlen]; simp) (Gx.Wp.of ⟨rfl, kp, A⟩)
  | succ d ih =>
    intro i o h hi kp A
    rw [iterK_s]; simp only [ref06_Make_l0b]
    refine Gx.Wp.ifp (by rw [hlen]; simp; omega) ?_
    obtain ⟨q, i1, i2⟩ := (R.keeps kp).ldS (shards_get (i := i) data (by omega))
    refine Gx.Wp.bnd i1 (Gx.Wp.bnd i2 ?_)
    obtain ⟨h1, e1, k1⟩ := rtext_spec (k := k0) hk0 D (shOf k m data i) h (shOf_ok hk hR hd (by omega))
    refine Gx.Wp.bnd e1 ?_
    refine Gx.Wp.bnd rdS_one ?_
    obtain ⟨o2, h2, e2, A2, c2, _⟩ := (A.keeps k1).push (bytes := 16) (fun _ => rfl) (txt k m data i) (by rw [List.length_map, List.length_range]; omega) (by omega) (kp.trans k1).nx
    refine Gx.Wp.bnd e2 ?_
    rw [Gx.w1 (by omega)]
    refine ih (i + 1) o2 h2 (by omega) (Chg.beh (kp.trans k1) c2 fun x hx ⟨a, ha, e⟩ => by have := (A.lt a ha).2; omega) ?_
    rw [List.range_succ, List.map_append]; exact A2
theorem rmake_spec {k0 : Nat} (hk0 : 70000 ≤ k0) (D : CallF) (h : AHeap) {k m : Nat} (hk : 0 < k) (hR : k + m ≤ 255) {data : ByteArray} (hd : data.size ≤ 65536) :
    Gx.Wp (ref06_Make k0 D (k : Int) (m : Int) data h) fun q => q.1.2 = 0 ∧ Keeps h q.2 ∧ Row encS q.2 q.1.1 ((List.range (k + m)).map (txt k m data)) := by
  simp only [ref06_Make]
  obtain ⟨h1, pb, B, r1, p1, k1, _, _⟩ := rsnew_spec (k0 := k0) (by omega) D h hk hR
  refine Gx.Wp.bnd r1 (Gx.Wp.ifn (by simp) ?_)
  obtain ⟨h2, o, r2, k2, A2⟩ := rsplit_spec hk0 D p1 hk hR data hd
  refine Gx.Wp.bnd r2 (Gx.Wp.ifn (by simp) ?_)
  refine Gx.Wp.call (digest_spec (k0 := k0) (by omega) D data (by omega) (by omega) h2) fun q ⟨q1, q2⟩ => ?_
  obtain ⟨dg, h3⟩ := q
  simp only at q1 q2 ⊢
  subst q1
  refine Gx.Wp.jn fun j hj => ?_
  unfold ref06_Make_l0
  obtain ⟨bot, eb⟩ := iterK_of (fun _ _ _ _ _ _ _ _ => none) (ref06_Make_l0b k0 D j) (show (k + m) + 1 ≤ k0 by omega)
  rw [eb]
  subst hj
  refine (rmk_l0 hk0 D bot hk hR hd (h0 := h3) (A2.row.keeps q2) (k + m) 0 ⟨none, 0, 0⟩ h3 (by omega) (Chg.refl _ _) (Acc.nil _ _ _ _)).mono ?_
  rintro r ⟨z1, z2, z3⟩
  exact ⟨z1, k1.trans (k2.trans (q2.trans z2)), z3.row⟩
theorem makes_true {k0 : Nat} (hk0 : 200000 ≤ k0) {h : AHeap} (kg : KG 0 h) (a b : Int) (data : ByteArray) : Tru (law06_ShardMakes k0 (DD k0) a b data h) true := by
  simp only [law06_ShardMakes]
  refine Tru.jn fun j hj => ?_
  have key : ∀ y : Bool, (y = false → ¬ (a > 6 ∧ a ≤ 255) ∧ ¬ (b > 6 ∧ b ≤ 255) ∧ ¬ (data.size > 300 ∧ data.size ≤ 65536)) → Tru (j a b data y h) true := by
    intro y hy
    subst hj
    cases y with
    | true =>
      obtain ⟨h', r, _⟩ := works_spec (k := k0) (by omega) (DD k0) h
      exact Tru.ifp rfl (Tru.bnd r Tru.of)
    | false =>
      obtain ⟨c1, c2, c3⟩ := hy rfl
      refine Tru.ifn (by decide) ?_
      have nil2 : ∀ {code : Int} {g1 g2 : AHeap}, shard_Make k0 (DD k0) a b data h = some ((⟨none, 0, 0⟩, code), g1) → ref06_Make k0 (DD k0) a b data g1 = some ((⟨none, 0, 0⟩, code), g2) →
          Tru ((shard_Make k0 (DD k0) a b data h).bind fun r8 => (ref06_Make k0 (DD k0) a b data r8.2).bind fun r9 =>
            joinK (fun (l10 : Slc) (ok11 : Bool) (h12 : AHeap) => (book_SpoilTexts k0 (DD k0) l10 h12).bind fun r14 => some (ok11, r14.2)) fun j13 =>
            (book_SameTexts k0 (DD k0) r8.1.1 r9.1.1 r9.2).bind fun r15 =>
            (if r15.1 = true then (if (r8.1.2 == r9.1.2) = true then (law06_works k0 (DD k0) r15.2).bind fun r16 => j13 r8.1.1 r16.1 r16.2 else j13 r8.1.1 false r15.2) else j13 r8.1.1 false r15.2)) true := by
        intro code g1 g2 e1 e2
        refine Tru.bnd e1 (Tru.bnd e2 ?_)
        refine Tru.jn fun j2 hj2 => ?_
        have rsame := sameS_spec (k := k0) (DD k0) (Row.nil encS g2 none 0) (Row.nil encS g2 none 0) (by simp; omega) (by simp)
        obtain ⟨g3, r3, _⟩ := works_spec (k := k0) (by omega) (DD k0) g2
        obtain ⟨g4, r4⟩ := spoil_nil (k0 := k0) (by omega) (DD k0) g3
        refine Tru.bnd rsame (Tru.ifp rfl (Tru.ifp (by simp) (Tru.bnd r3 ?_)))
        subst hj2
        exact Tru.bnd r4 Tru.of
      by_cases hv : a < 1 ∨ b < 0 ∨ a > 255 ∨ b > 255 - a
      · obtain ⟨g1, r1, k1⟩ := snew_no (k0 := k0) h hv
        obtain ⟨g2, r2, k2⟩ := rsnew_no (k0 := k0) (DD k0) g1 hv
        refine nil2 (code := 1) (g1 := g1) (g2 := g2) ?_ ?_
        · simp only [shard_Make]
          exact bnd r1 (ifp (by simp) rfl)
        · simp only [ref06_Make]
          exact bnd r2 (ifp (by simp) rfl)
      · obtain ⟨k, rfl⟩ : ∃ k : Nat, a = k := ⟨a.toNat, by omega⟩
        obtain ⟨m, rfl⟩ : ∃ m : Nat, b = m := ⟨b.toNat, by omega⟩
        have hk : 0 < k := by omega
        have hR : k + m ≤ 255 := by omega
        by_cases hs : data.size ≤ 65536
        · obtain ⟨⟨⟨o, code⟩, h3⟩, r3, z1, k3, R3, A3⟩ := make_spec (k0 := k0) (by omega) kg hk hR hs
          simp only at z1 k3 R3 A3
          subst z1
          obtain ⟨⟨⟨o2, code2⟩, h4⟩, r4, z2, k4, R4⟩ := rmake_spec (k0 := k0) (by omega) (DD k0) h3 hk hR hs
          simp only at z2 k4 R4
          subst z2
          refine Tru.bnd r3 (Tru.bnd r4 ?_)
          refine Tru.jn fun j2 hj2 => ?_
          have rsame := sameS_spec (k := k0) (DD k0) (R3.keeps k4) R4 (by simp; omega) (by simp; omega)
          obtain ⟨g5, r5, k5⟩ := works_spec (k := k0) (by omega) (DD k0) h4
          refine Tru.bnd rsame (Tru.ifp rfl (Tru.ifp (by simp) (Tru.bnd r5 ?_)))
          subst hj2
          rcases A3.st with ⟨rfl, _⟩ | ⟨ob, g⟩
          · obtain ⟨g6, r6⟩ := spoil_nil (k0 := k0) (by omega) (DD k0) g5
            exact Tru.bnd r6 Tru.of
          · have hlt := A3.lt ⟨ob, 0, some 2⟩ (by rw [g.s])
            have gb := ((k4.trans k5).oth ob hlt.1 (fun f => f)).trans g.blk
            have hs' := g.s
            subst hs'
            obtain ⟨g6, r6⟩ := spoil_spec (k0 := k0) (DD k0) (cap := ((List.range (k + m)).map (txt k m data)).length) (sp := some 2) gb rfl (by simp; omega) (by simp; omega)
            exact Tru.bnd r6 Tru.of
        · obtain ⟨g1, pb, f2, B, sb, fb, r1, p1, _⟩ := snew_spec (k0 := k0) (by omega) h hk hR
          obtain ⟨g2, pr, B2, r2, p2, _⟩ := rsnew_spec (k0 := k0) (by omega) (DD k0) g1 hk hR
          refine nil2 (code := 2) (g1 := g1) (g2 := g2) ?_ ?_
          · simp only [shard_Make]
            exact bnd r1 (ifn (by simp) (bnd (split_no (k0 := k0) p1 hk (by omega) data (by omega)) (ifp (by simp) rfl)))
          · simp only [ref06_Make]
            exact bnd r2 (ifn (by simp) (bnd (rsplit_no (k0 := k0) (DD k0) (some ⟨pr, 0, none⟩) data g2 (by omega)) (ifp (by simp) rfl)))
  have tail : ¬ (a > 6 ∧ a ≤ 255) → ¬ (b > 6 ∧ b ≤ 255) → Tru (if decide ((data.size : Int) > 300) = true then j a b data (decide ((data.size : Int) ≤ 65536)) h else j a b data false h) true := by
    intro q1 q2
    by_cases c5 : (data.size : Int) > 300
    · exact Tru.ifp (by simpa using c5) (key _ fun e => by simp at e; omega)
    · exact Tru.ifn (by simpa using c5) (key false fun _ => ⟨q1, q2, by omega⟩)
  have mid : ¬ (a > 6 ∧ a ≤ 255) → Tru (if decide (b > 6) = true then (if decide (b ≤ 255) = true then j a b data true h else (if decide ((data.size : Int) > 300) = true then j a b data (decide ((data.size : Int) ≤ 65536)) h else j a b data false h)) else (if decide ((data.size : Int) > 300) = true then j a b data (decide ((data.size : Int) ≤ 65536)) h else j a b data false h)) true := by
    intro q1
    by_cases c3 : b > 6
    · refine Tru.ifp (by simpa using c3) ?_
      by_cases c4 : b ≤ 255
      · exact Tru.ifp (by simpa using c4) (key true fun e => by cases e)
      · exact Tru.ifn (by simpa using c4) (tail q1 (by omega))
    · exact Tru.ifn (by simpa using c3) (tail q1 (by omega))
  by_cases c1 : a > 6
  · refine Tru.ifp (by simpa using c1) ?_
    by_cases c2 : a ≤ 255
    · exact Tru.ifp (by simpa using c2) (key true fun e => by cases e)
    · exact Tru.ifn (by simpa using c2) (mid (by omega))
  · exact Tru.ifn (by simpa using c1) (mid (by omega))
end Gz
