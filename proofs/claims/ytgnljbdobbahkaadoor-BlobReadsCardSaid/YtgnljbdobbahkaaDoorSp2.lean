import Derived.Test.YtgnljbdobbahkaaDoorSp1
namespace Ge
open Go Gx
theorem rshort_any {k rb : Nat} {H : AHeap} {S : ByteArray} (D : CallF) (hk : 20 ≤ k) (g : H.get rb = some (.cells [.string S, .int .i64 1, .int .i64 0] 86 true 0)) (most : Int) :
  Gx.Wp (ref01_Reader_Short k D (some ⟨rb, 0, none⟩) most H) fun z => Chg (· = rb) H z.2 ∧ ∃ a e : Int, z.2.get rb = some (.cells [.string S, .int .i64 a, .int .i64 e] 86 true 0) := by
 simp only [ref01_Reader_Short]
 refine .bnd rfl (.bnd (sldI_at g rfl) (.ifn (by simp) (Wp.jn fun j5 h5 => ?_)))
 have set2 : ∀ (e : Int) (f : Int), Gx.Wp ((some (⟨rb, 0, none⟩ : Addr)).bind fun p18 => (st1 (⟨p18.block, p18.off + 2, none⟩ : Addr) (.int .i64 e) H).bind fun h19 => some (f, h19)) fun z => Chg (· = rb) H z.2 ∧ ∃ a e : Int, z.2.get rb = some (.cells [.string S, .int .i64 a, .int .i64 e] 86 true 0) := fun e f =>
  .bnd rfl (Wp.st g (by simp) rfl fun H' c n g' => .of ⟨c, _, _, g'⟩)
 have set1 : ∀ (e : Int) (f : Int), Gx.Wp ((some (⟨rb, 0, none⟩ : Addr)).bind fun p18 => (st1 (⟨p18.block, p18.off + 1, none⟩ : Addr) (.int .i64 e) H).bind fun h19 => some (f, h19)) fun z => Chg (· = rb) H z.2 ∧ ∃ a e : Int, z.2.get rb = some (.cells [.string S, .int .i64 a, .int .i64 e] 86 true 0) := fun e f =>
  .bnd rfl (Wp.st g (by simp) rfl fun H' c n g' => .of ⟨c, _, _, g'⟩)
 unfold ref01_Reader_Short_l0
 obtain ⟨bot, eb⟩ := iterK_of (fun _ _ _ _ _ => none) (ref01_Reader_Short_l0b k D j5) (show 9 + 1 ≤ k by omega)
 rw [eb]
 have loop : ∀ (d i : Nat) (n : Int), i + d = 9 → Gx.Wp (iterK bot (d + 1) (ref01_Reader_Short_l0b k D j5) (some ⟨rb, 0, none⟩) most n (i : Int) H) fun z => Chg (· = rb) H z.2 ∧ ∃ a e : Int, z.2.get rb = some (.cells [.string S, .int .i64 a, .int .i64 e] 86 true 0) := fun d => by
  induction d with
  | zero =>
   intro i n hd
   rw [iterK_s]; simp only [ref01_Reader_Short_l0b]
   refine .ifn (by simp; omega) ?_
   rw [h5]
   exact set2 3 0
  | succ d ih =>
   intro i n hd
   rw [iterK_s]; simp only [ref01_Reader_Short_l0b]
   have ea : IntKind.wrap .i64 (1 + (i : Int)) = ((i + 1 : Nat) : Int) := by rw [Gx.w64 _ (by omega)]; omega
   have e7 : IntKind.wrap .i64 (7 * (i : Int)) = ((7 * i : Nat) : Int) := by rw [Gx.w64 _ (by omega)]; omega
   refine .ifp (by simp; omega) (.bnd rfl (.bnd (sldI_at g rfl) (.bnd rfl (.bnd (ldS_at g rfl) ?_))))
   rw [ea]
   by_cases c0 : S.size ≤ i + 1
   ·exact .ifp (by simp; omega) (set2 10 0)
   obtain ⟨c, hc⟩ := isome (l := bl S) (i := i + 1) (by rw [bl_length]; omega)
   refine .ifn (by simp; omega) (.bnd rfl (.bnd (ldS_at g rfl) (.bnd rfl (.bnd (sldI_at g rfl) ?_))))
   rw [ea]
   refine .bnd (idxS_of hc) (.ifp (by rw [e7]; omega) ?_)
   by_cases c1 : IntKind.wrap .i64 (c.toNat : Int) < 128
   ·refine .ifp (by simpa using c1) (Wp.jn fun j32 h32 => ?_)
    have J : ∀ (m : Int) (y : Bool), Gx.Wp (j32 (some ⟨rb, 0, none⟩) most m (i : Int) y H) fun z => Chg (· = rb) H z.2 ∧ ∃ a e : Int, z.2.get rb = some (.cells [.string S, .int .i64 a, .int .i64 e] 86 true 0) := fun m y => by
     rw [h32]
     cases y with
     | true => exact .ifp rfl (set2 3 0)
     | false =>
      refine .ifn (by decide) ?_
      by_cases c2 : m > most
      ·exact .ifp (by simpa using c2) (set2 2 0)
      ·exact .ifn (by simpa using c2) (.bnd rfl (.bnd (sldI_at g rfl) (set1 _ _)))
    by_cases c2 : (IntKind.wrap .i64 (c.toNat : Int) == 0) = true
    ·exact .ifp c2 (J _ _)
    ·exact .ifn c2 (J _ _)
   ·refine .ifn (by simpa using c1) ?_
    rw [Gx.w1 (by omega)]
    exact ih (i + 1) _ (by omega)
 exact loop 9 0 0 (by omega)
def knB (c : Nat) : Bool := decide (c = 1 ∨ c = 2 ∨ c = 17 ∨ c = 18)
def headP (l : List UInt8) : Option (Nat × Nat × List UInt8) :=
 match l with
 | [] => none
 | c :: t => match pS 65536 t with
  | some (n, r) => if knB c.toNat = true then some (c.toNat, n, r) else none
  | none => none
theorem bknown_spec (k : Nat) (D : CallF) (n : Int) (h : AHeap) : blob_known k D n h = some (decide (n = 1 ∨ n = 2), h) := by
 simp only [blob_known]
 by_cases c : n = 1
 ·rw [if_pos (by simpa using c)]; simp [c]
 ·rw [if_neg (by simpa using c)]
  congr 2
  by_cases d : n = 2
  ·simp [d]
  ·rw [decide_eq_false (fun q => q.elim c d)]; simpa using d
theorem kn_prog : ∀ a : Fin 256, decide (Go.bits .andNot .i64 (a.val : Int) 16 = 1 ∨ Go.bits .andNot .i64 (a.val : Int) 16 = 2) = knB a.val := by decide +kernel
theorem kn_ref : ∀ a : Fin 256, (decide ((a.val : Int) = 1 ∨ (a.val : Int) = 2) || decide (IntKind.wrap .i64 ((a.val : Int) - 16) = 1 ∨ IntKind.wrap .i64 ((a.val : Int) - 16) = 2)) = knB a.val := by decide +kernel
theorem pS_suf {most : Nat} {l : List UInt8} {n : Nat} {r : List UInt8} (h : pS most l = some (n, r)) : n ≤ most ∧ ∃ m, m ≤ l.length ∧ r = l.drop m := by
 unfold pS at h
 cases hq : lebQ 9 true l with
 | none => rw [hq] at h; cases h
 | some p =>
  rw [hq] at h
  simp only [Option.bind_some] at h
  split at h
  ·cases h
  ·rename_i c
   cases h
   obtain ⟨m, h1, h2⟩ := lebQ_suf (n := n) (r := r) hq
   exact ⟨by omega, m, h1, h2⟩
section
variable {k : Nat} {h : AHeap} {s : ByteArray}
theorem head_spec (D : CallF) (hk : 20 ≤ k) (hs : s.size ≤ 1000000) :
  Gx.Wp (blob_head k D s h) fun z => Keeps h z.2 ∧ match headP (bl s) with
   | some (c, n, r) => z.1 = ((c : Int), (n : Int), ⟨⟨r⟩⟩, 0)
   | none => z.1 = (0, 0, ⟨#[]⟩, 130) := by
 simp only [blob_head, num_Read]
 obtain ⟨h1, e1⟩ : ∃ h1, h1 = h.new (.cells [.string s, .int .i64 0] 157 true 0) := ⟨_, rfl⟩
 have k1 : Keeps h h1 := e1 ▸ Keeps.new h _
 have g1 : h1.get h.next = some (.cells [.string s, .int .i64 0] 157 true 0) := by rw [e1]; simp
 have n1 : h1.next = h.next + 1 := by rw [e1]; rfl
 rw [← e1]
 refine .bnd rfl ?_
 have P1 : PRd h1 h.next (some (bl s)) := PRd.ok (l := bl s) g1 (by rw [bl_length]; exact hs)
 refine .call (rfixed_spec D hk (show h.next < h1.next by omega) P1) fun r2 ⟨q2, P2, c2⟩ => ?_
 refine .call (rshort_spec D hk P2 65536) fun r3 ⟨q3, P3, c3⟩ => Wp.jn fun j10 h10 => ?_
 rw [q2, q3]
 have n3 := (c2.trans c3).nx
 have kz : Keeps h r3.2 := k1.keepsS (c2.trans c3) fun y hy => by have hy : y = h.next := hy; omega
 have bad : ∀ a b, headP (bl s) = none → Gx.Wp (j10 s a b (some ⟨h.next, 0, none⟩) true r3.2) fun z => Keeps h z.2 ∧ match headP (bl s) with
   | some (c, n, r) => z.1 = ((c : Int), (n : Int), ⟨⟨r⟩⟩, 0)
   | none => z.1 = (0, 0, ⟨#[]⟩, 130) := fun a b hn => by
  rw [h10, hn]
  exact .ifp rfl (.of ⟨kz, rfl⟩)
 obtain ⟨S, e, g3, hS, he, hl⟩ := P3
 refine .bnd (err_spec D g3) ?_
 cases hb : bl s with
 | nil =>
  rw [hb] at he bad
  have : e ≠ 0 := fun q => by have := he.1 q; simp [opF, opS] at this
  exact .ifp (by simpa using this) (bad _ _ rfl)
 | cons c t =>
  rw [hb] at he bad hl
  have hcl := c.toNat_lt
  cases hp : pS 65536 t with
  | none =>
   have : e ≠ 0 := fun q => by have := he.1 q; simp [opF, opS, hp] at this
   exact .ifp (by simpa using this) (bad _ _ (by simp [headP, hp]))
  | some x =>
   obtain ⟨n, r⟩ := x
   have e0 : e = 0 := he.2 (by simp [opF, opS, hp])
   have eS := hl r (by simp [opF, opS, hp])
   refine .ifn (by simp [e0]) ?_
   have o1 : (opF (some (c :: t))).1 = c.toNat := rfl
   have o2 : (opS 65536 (opF (some (c :: t))).2).1 = n := by simp [opF, opS, hp]
   rw [o1, o2]
   refine .bnd (bknown_spec k D _ r3.2) ?_
   simp only []
   rw [kn_prog ⟨c.toNat, hcl⟩]
   by_cases ck : knB c.toNat = true
   ·have hh : headP (c :: t) = some (c.toNat, n, r) := by simp [headP, hp, ck]
    rw [hh, h10]
    obtain ⟨_, m, hm, er⟩ := pS_suf hp
    have st : t.length + 1 = s.size := by rw [← bl_length, hb]; rfl
    have lr : r.length = t.length - m := by rw [er, List.length_drop]
    have sS : S.size = r.length := by rw [eS]; rfl
    refine .ifn (by rw [ck]; simp) (.bnd (left_spec D g3) ?_)
    simp only []
    rw [show IntKind.wrap .i64 ((s.size : Int) - (S.size : Int)) = ((m + 1 : Nat) : Int) by rw [Gx.w64 _ (by omega)]; omega]
    refine .bnd (subS_of (i := m + 1) (j := s.size) rfl rfl (by omega) (Nat.le_refl _)) (.of ⟨kz, ?_⟩)
    rw [List.take_of_length_le (by rw [bl_length]; exact Nat.le_refl _), hb, List.drop_succ_cons, ← er]
   ·have ck' : knB c.toNat = false := by simpa using ck
    rw [ck']
    exact bad _ _ (by simp [headP, hp, ck'])
theorem rsize_any (D : CallF) (hk : 20 ≤ k) : Gx.Wp (ref13_Size k D s h) fun z => Keeps h z.2 := by
 simp only [ref13_Size]
 refine Wp.jn fun j4 h4 => ?_
 have J : ∀ y, Gx.Wp (j4 s y h) fun z => Keeps h z.2 := fun y => by
  rw [h4]
  cases y with
  | true => exact .ifp rfl (.of (Chg.refl _ _))
  | false =>
   refine .ifn (by decide) (Wp.newE fun h5 e5 k5 n5 g5 => .call (rshort_any D hk g5 65536) fun r6 ⟨c6, a, e, g6⟩ => ?_)
   have kz : Keeps h r6.2 := k5.keepsS c6 fun y hy => by have hy : y = h.next := hy; omega
   refine .bnd (sldI_at g6 rfl) ?_
   by_cases c : (e != 0) = true
   ·exact .ifp c (.of kz)
   ·exact .ifn c (.bnd (sldI_at g6 rfl) (.of kz))
 by_cases c : s = ⟨#[]⟩
 ·exact .ifp (by rw [ba_beq]; simpa using c) (J _)
 ·refine .ifn (by rw [ba_beq]; simpa using c) ?_
  obtain ⟨b, hb⟩ := isome (l := bl s) (i := 0) (by
   rcases Nat.eq_zero_or_pos (bl s).length with q | q
   ·exact absurd (bl_inj (List.length_eq_zero_iff.1 q)) c
   ·exact q)
  refine .bnd (idxS_of hb) (.bnd (known_spec k D _ h) ?_)
  dsimp only
  cases decide (IntKind.wrap .i64 (b.toNat : Int) = 1 ∨ IntKind.wrap .i64 (b.toNat : Int) = 2) with
  | true => exact .ifn (by decide) (J _)
  | false => exact .ifp rfl (.bnd (idxS_of hb) (.bnd (known_spec k D _ h) (J _)))
theorem rsize_spec (D : CallF) (hk : 20 ≤ k) (hs : s.size ≤ 1000000) :
  Gx.Wp (ref13_Size k D s h) fun z => Keeps h z.2 ∧ match headP (bl s) with
   | some (_, n, r) => ∃ a : Nat, z.1 = ((n : Int), (a : Int), 0) ∧ a ≤ s.size ∧ r = (bl s).drop a
   | none => z.1 = (0, 0, 130) := by
 simp only [ref13_Size]
 refine Wp.jn fun j4 h4 => ?_
 cases hb : bl s with
 | nil =>
  have c : s = ⟨#[]⟩ := bl_inj hb
  refine .ifp (by rw [ba_beq]; simpa using c) ?_
  rw [h4]
  exact .ifp rfl (.of ⟨Chg.refl _ _, rfl⟩)
 | cons c t =>
  have hcl := c.toNat_lt
  have hne : ¬ s = ⟨#[]⟩ := fun q => by rw [q] at hb; cases hb
  have st : t.length + 1 = s.size := by rw [← bl_length, hb]; rfl
  have J : ∀ y, y = knB c.toNat → Gx.Wp (j4 s (!y) h) fun z => Keeps h z.2 ∧ match headP (c :: t) with
   | some (_, n, r) => ∃ a : Nat, z.1 = ((n : Int), (a : Int), 0) ∧ a ≤ s.size ∧ r = (c :: t).drop a
   | none => z.1 = (0, 0, 130) := fun y hy => by
   rw [h4]
   cases hk0 : knB c.toNat with
   | false =>
    have hh : headP (c :: t) = none := by
     simp only [headP, hk0]
     cases pS 65536 t with
     | none => rfl
     | some x => simp
    rw [hh]
    exact .ifp (by rw [hy, hk0]; rfl) (.of ⟨Chg.refl _ _, rfl⟩)
   | true =>
    refine .ifn (by rw [hy, hk0]; decide) (Wp.newE fun h5 e5 k5 n5 g5 => ?_)
    have R5 : RRx s h5 h.next (some t) := by
     have := RRx.ok (S := s) (a := 1) g5 (by omega) (by omega)
     rw [hb] at this
     exact this
    refine .call (rxshort_spec D hk R5 65536) fun r6 ⟨q6, R6, c6⟩ => ?_
    have kz : Keeps h r6.2 := k5.keepsS c6 fun y hy => by have hy : y = h.next := hy; omega
    obtain ⟨a, e, g6, _, ha, he, hl⟩ := R6
    refine .bnd (sldI_at g6 rfl) ?_
    cases hp : pS 65536 t with
    | none =>
     have hh : headP (c :: t) = none := by simp [headP, hp]
     rw [hh]
     have : e ≠ 0 := fun q => by have := he.1 q; simp [opS, hp] at this
     exact .ifp (by simpa using this) (.of ⟨kz, rfl⟩)
    | some x =>
     obtain ⟨n, r⟩ := x
     have hh : headP (c :: t) = some (c.toNat, n, r) := by simp [headP, hp, hk0]
     rw [hh]
     have e0 : e = 0 := he.2 (by simp [opS, hp])
     have er := hl r (by simp [opS, hp])
     have q6' : r6.1 = (n : Int) := by rw [q6]; simp [opS, hp]
     exact .ifn (by simp [e0]) (.bnd (sldI_at g6 rfl) (.of ⟨kz, a, by rw [q6'], ha, by rw [er, hb]⟩))
  refine .ifn (by rw [ba_beq]; simpa using hne) ?_
  have h0 : (bl s)[0]? = some c := by rw [hb]; rfl
  have ew : IntKind.wrap .i64 (c.toNat : Int) = (c.toNat : Int) := Gx.w64 _ (by omega)
  refine .bnd (idxS_of h0) ?_
  rw [ew]
  refine .bnd (known_spec k D _ h) ?_
  have kr := kn_ref ⟨c.toNat, hcl⟩
  simp only [] at kr
  dsimp only
  cases hd : decide ((c.toNat : Int) = 1 ∨ (c.toNat : Int) = 2) with
  | true =>
   rw [hd, Bool.true_or] at kr
   exact .ifn (by decide) (J true kr)
  | false =>
   rw [hd, Bool.false_or] at kr
   refine .ifp rfl (.bnd (idxS_of h0) ?_)
   rw [ew]
   exact .bnd (known_spec k D _ h) (J _ kr)
end
end Ge
namespace Ge
open Go Gx
def idB (c : Nat) (t : List UInt8) : ByteArray := ⟨⟨digest (UInt8.ofNat c :: t)⟩⟩
def isK (n : Int) : Bool := decide (n = 1 ∨ n = 2)
noncomputable def idV (n : Int) (t : List UInt8) : ByteArray × Int := if isK n = true then (idB n.toNat t, 0) else (⟨#[]⟩, 1)
theorem wrapK {n : Int} (h : isK n = true) : Value.int .u8 (IntKind.wrap .u8 n) = encB (UInt8.ofNat n.toNat) := by
 unfold isK at h
 simp only [decide_eq_true_eq] at h
 rcases h with h | h <;> subst h <;> rfl
section
variable {k : Nat} {h : AHeap} {t : ByteArray} {n : Int}
theorem one_byte {h h2 : AHeap} {b : UInt8} (g : h2.get h.next = some (.cells [encB b] 5 true 0)) : bytesOf h2 ⟨some ⟨h.next, 0, some 0⟩, 1, 1⟩ = some ⟨⟨[b]⟩⟩ :=
 bytesOf_out (l := [b]) g
theorem cat_two (a b : ByteArray) : B.catL [a, b] = bl a ++ bl b := by simp [B.catL]
theorem two_row {h : AHeap} {b : Nat} {x y : ByteArray} (g : h.get b = some (.cells [.string x, .string y] 9 true 0)) (hl : b < h.next) : Row encS h ⟨some ⟨b, 0, some 0⟩, 2, 2⟩ [x, y] :=
 Row.of_block (enc := encS) (xs := [x, y]) g hl fun i z hz => by
  match i with
  | 0 => simp at hz; subst hz; rfl
  | 1 => simp at hz; subst hz; rfl
  | i + 2 => simp at hz
theorem idV_no {n : Int} {t : List UInt8} (h : isK n = false) : idV n t = (⟨#[]⟩, 1) := by unfold idV; rw [h]; rfl
theorem idV_yes {n : Int} {t : List UInt8} (h : isK n = true) : idV n t = (idB n.toNat t, 0) := by unfold idV; rw [if_pos h]
theorem bid_spec (D : CallF) (kg : KG 0 h) (ht : t.size ≤ 140737488351232) (hk : 200 ≤ k) (hk2 : t.size + 100 < 32 * k) :
  Gx.Wp (blob_Id k D n t h) fun z => z.1 = idV n (bl t) ∧ Keeps h z.2 := by
 simp only [blob_Id]
 refine .bnd (bknown_spec k D n h) ?_
 have hd : decide (n = 1 ∨ n = 2) = isK n := rfl
 rw [hd]
 cases hn : isK n with
 | false =>
  exact .ifp rfl (.of ⟨(idV_no hn).symm, Chg.refl _ _⟩)
 | true =>
  refine .ifn (by simp) (Wp.newE fun h2 e2 k2 n2 g2 => ?_)
  rw [wrapK hn] at g2
  refine .bnd (one_byte g2) (Wp.newE fun h4 e4 k4 n4 g4 => ?_)
  have kg4 : KG 0 h4 := (kg.chg k2 fun f => f).chg k4 fun f => f
  refine .call (B.sum_spec hk D kg4 (two_row g4 (by omega)) (by rw [cat_two, bl_mk, List.length_append, bl_length]; simp; omega) (by rw [cat_two, bl_mk, List.length_append, bl_length]; simp; omega) (by simp; omega) (by simp)) fun r5 ⟨q5, k5⟩ => .of ⟨?_, (k2.trans k4).trans k5⟩
  rw [q5, cat_two, bl_mk, idV_yes hn]; rfl
theorem rsum_spec (D : CallF) (hn : isK n = true) (ht : t.size ≤ 140737488351232) (hk : 200 ≤ k) (hk2 : t.size + 100 < 32 * k) :
  Gx.Wp (ref13_Sum k D n t h) fun z => z.1 = idB n.toNat (bl t) ∧ Keeps h z.2 := by
 simp only [ref13_Sum]
 refine Wp.newE fun h1 e1 k1 n1 g1 => ?_
 rw [wrapK hn] at g1
 have sz : ((⟨⟨[UInt8.ofNat n.toNat]⟩⟩ : ByteArray) ++ t).size = 1 + t.size := by rw [ByteArray.size_append]; rfl
 refine .bnd (one_byte g1) (.ifp (by show 1 + t.size ≤ _; omega) (.call (B.digest_spec hk D _ (by omega) (by omega) h1) fun r3 ⟨q3, k3⟩ => .of ⟨?_, k1.trans k3⟩))
 rw [q3]
 unfold digB idB
 rw [show bl ((⟨⟨[UInt8.ofNat n.toNat]⟩⟩ : ByteArray) ++ t) = [UInt8.ofNat n.toNat] ++ bl t by simp [bl]]
 rfl
def encP (c : Nat) (t : List UInt8) : List UInt8 := if (packA t).length < t.length then UInt8.ofNat (c + 16) :: (leb t.length ++ packA t) else UInt8.ofNat c :: (leb t.length ++ t)
noncomputable def encV (n : Int) (t : ByteArray) : ByteArray × Int := if isK n = true then (if 65536 < t.size then (⟨#[]⟩, 2) else (⟨⟨encP n.toNat (bl t)⟩⟩, 0)) else (⟨#[]⟩, 1)
theorem wrapK16 {n : Int} (h : isK n = true) : Value.int .u8 (IntKind.wrap .u8 (Go.bits .or .i64 n 16)) = encB (UInt8.ofNat (n.toNat + 16)) := by
 unfold isK at h
 simp only [decide_eq_true_eq] at h
 rcases h with h | h <;> subst h <;> rfl
theorem ba3 (a b c : List UInt8) : ((⟨⟨a⟩⟩ : ByteArray) ++ (⟨⟨b⟩⟩ : ByteArray)) ++ (⟨⟨c⟩⟩ : ByteArray) = ⟨⟨a ++ (b ++ c)⟩⟩ := by
 apply bl_inj
 simp [bl]
theorem packL_len (s : List UInt8) : ∀ (f i kept : Nat) (es : List Fr) (out : List UInt8), kept ≤ i → i ≤ s.length → out.length ≤ 2 * kept → (packL s f i kept es out).length ≤ 2 * s.length + 2
 | 0, i, kept, es, out, h1, h2, h3 => by simp [packL]; omega
 | f + 1, i, kept, es, out, h1, h2, h3 => by
  unfold packL
  split
  ·split
   ·rename_i c4
    have sq := seqB_len (l := (s.take i).drop kept) (d := (bestF s i es).1) c4
    have sl2 : ((s.take i).drop kept).length = i - kept := by simp; omega
    refine packL_len s f _ _ _ _ (Nat.le_refl _) (by omega) ?_
    rw [List.length_append]; omega
   ·exact packL_len s f _ _ _ _ (by omega) (by omega) h3
  ·have h1 := numB_len (s.drop kept).length
   unfold seqB
   rw [if_neg (by omega)]
   simp only [List.length_append, List.length_cons, List.length_nil, List.length_drop] at h1 ⊢
   omega
theorem packA_len (l : List UInt8) : (packA l).length ≤ 2 * l.length + 2 := packL_len l _ 0 0 [] [] (Nat.le_refl _) (by omega) (by simp)
theorem encV_no {n : Int} (h : isK n = false) : encV n t = (⟨#[]⟩, 1) := by unfold encV; rw [h]; rfl
theorem encV_long {n : Int} (h : isK n = true) (c : 65536 < t.size) : encV n t = (⟨#[]⟩, 2) := by unfold encV; rw [if_pos h, if_pos c]
theorem encV_yes {n : Int} (h : isK n = true) (c : ¬ 65536 < t.size) : encV n t = (⟨⟨encP n.toNat (bl t)⟩⟩, 0) := by unfold encV; rw [if_pos h, if_neg c]
theorem encode_spec (D : CallF) (hk : 1200000 ≤ k) :
  Gx.Wp (blob_Encode k D n t h) fun z => z.1 = encV n t ∧ Keeps h z.2 := by
 simp only [blob_Encode]
 refine .bnd (bknown_spec k D n h) ?_
 have hd : decide (n = 1 ∨ n = 2) = isK n := rfl
 rw [hd]
 cases hn : isK n with
 | false => exact .ifp rfl (.of ⟨(encV_no hn).symm, Chg.refl _ _⟩)
 | true =>
  refine .ifn (by simp) ?_
  by_cases c : 65536 < t.size
  ·exact .ifp (by simp; omega) (.of ⟨(encV_long hn c).symm, Chg.refl _ _⟩)
  rw [encV_yes hn c]
  refine .ifn (by simp; omega) (.call (short_spec D (by omega) t.size (by omega) h) fun r2 ⟨q2, k2⟩ => .call (pack_spec D (by omega) (by omega)) fun r3 ⟨q3, k3⟩ => Wp.jn fun j10 h10 => ?_)
  have kz := k2.trans k3
  have bt : (bl t).length = t.size := bl_length t
  have ll : (leb t.size).length ≤ 3 := leb_len 2 t.size (by omega)
  have pl := packA_len (bl t)
  have J : ∀ y, y = decide ((packA (bl t)).length < (bl t).length) → Gx.Wp (j10 n t (bA (leb t.size)) ⟨⟨packA (bl t)⟩⟩ y r3.2) fun z => z.1 = ((⟨⟨encP n.toNat (bl t)⟩⟩ : ByteArray), (0 : Int)) ∧ Keeps h z.2 := fun y hy => by
   rw [h10]
   by_cases cc : (packA (bl t)).length < (bl t).length
   ·have ee : encP n.toNat (bl t) = UInt8.ofNat (n.toNat + 16) :: (leb t.size ++ packA (bl t)) := by unfold encP; rw [if_pos cc, bt]
    rw [ee]
    refine .ifp (by rw [hy]; simpa using cc) (Wp.newE fun h11 e11 k11 n11 g11 => ?_)
    rw [wrapK16 hn] at g11
    refine .bnd (one_byte g11) (.ifp ?_ (.ifp ?_ (.of ⟨?_, kz.trans k11⟩)))
    ·show 1 + (leb t.size).length ≤ _; omega
    ·rw [ByteArray.size_append]
     show 1 + (leb t.size).length + (packA (bl t)).length ≤ _
     omega
    ·show (((⟨⟨_⟩⟩ : ByteArray) ++ bA (leb t.size)) ++ (⟨⟨_⟩⟩ : ByteArray), (0 : Int)) = _
     rw [bA, ba3]; rfl
   ·have ee : encP n.toNat (bl t) = UInt8.ofNat n.toNat :: (leb t.size ++ bl t) := by unfold encP; rw [if_neg cc, bt]
    rw [ee]
    refine .ifn (by rw [hy]; simpa using cc) (Wp.newE fun h11 e11 k11 n11 g11 => ?_)
    rw [wrapK hn] at g11
    refine .bnd (one_byte g11) (.ifp ?_ (.ifp ?_ (.of ⟨?_, kz.trans k11⟩)))
    ·show 1 + (leb t.size).length ≤ _; omega
    ·rw [ByteArray.size_append]
     show 1 + (leb t.size).length + t.size ≤ _
     omega
    ·have := ba3 [UInt8.ofNat n.toNat] (leb t.size) (bl t)
     show (((⟨⟨_⟩⟩ : ByteArray) ++ bA (leb t.size)) ++ t, (0 : Int)) = _
     rw [bA]
     exact congrArg (·, (0 : Int)) this
  rw [q2, q3]
  exact .ifp rfl (J _ (by rw [bt, size_mk]; simp))
end
end Ge
namespace Ge
open Go Gx
def bdecP (l : List UInt8) : Option (Nat × List UInt8) :=
 match headP l with
 | none => none
 | some (c, n, r) => if c < 16 then (if r.length = n then some (c, r) else none) else (unpB r (n : Int)).map fun t => (c - 16, t)
theorem kn_and : ∀ a : Fin 256, knB a.val = true → (Go.bits .and .i64 (a.val : Int) 16 == 0) = decide (a.val < 16) ∧ (a.val < 16 → Go.bits .andNot .i64 (a.val : Int) 16 = (a.val : Int)) ∧ (¬ a.val < 16 → Go.bits .andNot .i64 (a.val : Int) 16 = ((a.val - 16 : Nat) : Int)) := by decide +kernel
theorem knB_lt {c : Nat} (h : knB c = true) : c < 256 := by
 unfold knB at h
 simp only [decide_eq_true_eq] at h
 omega
theorem headP_kn {l : List UInt8} {c n : Nat} {r : List UInt8} (h : headP l = some (c, n, r)) : knB c = true ∧ n ≤ 65536 ∧ r.length + 1 ≤ l.length := by
 unfold headP at h
 split at h
 ·cases h
 ·rename_i c0 t
  split at h
  ·rename_i n0 r0 hp
   split at h
   ·rename_i hk
    cases h
    obtain ⟨h1, m, h2, h3⟩ := pS_suf hp
    refine ⟨hk, h1, ?_⟩
    rw [h3, List.length_drop, List.length_cons]; omega
   ·cases h
  ·cases h
theorem decP_kn {l t : List UInt8} {c : Nat} (h : bdecP l = some (c, t)) : isK (c : Int) = true ∧ t.length ≤ 1048576 + l.length := by
 unfold bdecP at h
 split at h
 ·cases h
 ·rename_i c0 n r hh
  obtain ⟨hk, hn, hr⟩ := headP_kn hh
  unfold knB at hk
  simp only [decide_eq_true_eq] at hk
  split at h
  ·split at h
   ·cases h
    exact ⟨by unfold isK; simp only [decide_eq_true_eq]; omega, by omega⟩
   ·cases h
  ·cases hu : unpB r (n : Int) with
   | none => rw [hu] at h; cases h
   | some x =>
    rw [hu] at h
    cases h
    have := unpB_len hu
    exact ⟨by unfold isK; simp only [decide_eq_true_eq]; omega, by omega⟩
noncomputable def bdecV (l : List UInt8) : Int × ByteArray × Int := match bdecP l with
 | some (c, t) => ((c : Int), ⟨⟨t⟩⟩, 0)
 | none => (0, ⟨#[]⟩, 130)
section
variable {k : Nat} {h : AHeap} {s : ByteArray}
theorem decode_spec (D : CallF) (hk : 1200000 ≤ k) (hs : s.size ≤ 4000) : Gx.Wp (blob_Decode k D s h) fun z => z.1 = bdecV (bl s) ∧ Keeps h z.2 := by
 simp only [blob_Decode]
 refine .call (head_spec D (by omega) (by omega)) fun r1 ⟨k1, q1⟩ => Wp.jn fun j7 h7 => ?_
 have bs : (bl s).length = s.size := bl_length s
 cases hh : headP (bl s) with
 | none =>
  rw [hh] at q1
  have e : bdecV (bl s) = (0, ⟨#[]⟩, 130) := by unfold bdecV bdecP; rw [hh]
  rw [e]
  refine .ifp (by rw [q1]; rfl) (.of ⟨by rw [q1], k1⟩)
 | some x =>
  obtain ⟨c, n, r⟩ := x
  rw [hh] at q1
  simp only [] at q1
  obtain ⟨hkn, hn, hr⟩ := headP_kn hh
  obtain ⟨a1, a2, a3⟩ := kn_and ⟨c, knB_lt hkn⟩ hkn
  simp only [] at a1 a2 a3
  rw [q1]
  refine .ifn (by simp) ?_
  dsimp only
  rw [a1]
  have J : ∀ (tx : ByteArray) (e : Int) (H : AHeap), Keeps h H → (∀ m : Nat, e = 0 → (tx.size : Int) = (n : Int) → Go.bits .andNot .i64 (c : Int) 16 = (m : Int) → bdecV (bl s) = ((m : Int), tx, 0)) → (¬ (e = 0 ∧ (tx.size : Int) = (n : Int)) → bdecV (bl s) = (0, ⟨#[]⟩, 130)) →
    (∃ m : Nat, Go.bits .andNot .i64 (c : Int) 16 = (m : Int)) → Gx.Wp (j7 (c : Int) tx e (n : Int) H) fun z => z.1 = bdecV (bl s) ∧ Keeps h z.2 := fun tx e H kH f1 f2 ⟨m, hm⟩ => by
   rw [h7]
   refine Wp.jn fun j12 h12 => ?_
   by_cases ce : e = 0
   ·refine .ifn (by simp [ce]) ?_
    rw [h12]
    by_cases cl : (tx.size : Int) = (n : Int)
    ·exact .ifn (by simp [cl]) (.of ⟨by rw [f1 m ce cl hm, hm], kH⟩)
    ·exact .ifp (by simpa using cl) (.of ⟨by rw [f2 fun q => cl q.2], kH⟩)
   ·refine .ifp (by simpa using ce) ?_
    rw [h12]
    exact .ifp rfl (.of ⟨by rw [f2 fun q => ce q.1], kH⟩)
  have sz : (⟨⟨r⟩⟩ : ByteArray).size = r.length := size_mk _
  by_cases c16 : c < 16
  ·refine .ifp (by simpa using c16) (J _ _ _ k1 (fun m _ hl hm => ?_) (fun hl => ?_) ⟨c, a2 c16⟩)
   ·have em : m = c := by have := a2 c16; omega
    unfold bdecV bdecP
    rw [hh]; simp only []
    rw [if_pos c16, if_pos (by omega), em]
   ·unfold bdecV bdecP
    rw [hh]; simp only []
    rw [if_pos c16, if_neg (fun q => hl ⟨rfl, by omega⟩)]
  ·refine .ifn (by simpa using c16) (.call (unpack_spec D (by omega) (by omega) (n : Int)) fun r13 ⟨k13, q13⟩ => ?_)
   have kz := k1.trans k13
   cases hu : unpB r (n : Int) with
   | none =>
    rw [bl_mk, hu] at q13
    refine J _ _ _ kz (fun m h0 _ _ => absurd h0 q13.2) (fun _ => ?_) ⟨c - 16, a3 c16⟩
    unfold bdecV bdecP
    rw [hh]; simp only []
    rw [if_neg c16, hu]; rfl
   | some tx =>
    rw [bl_mk, hu] at q13
    simp only [] at q13
    rw [q13]
    have ul := unpB_len hu
    have ed : bdecV (bl s) = (((c - 16 : Nat) : Int), ⟨⟨tx⟩⟩, 0) := by
     unfold bdecV bdecP
     rw [hh]; simp only []
     rw [if_neg c16, hu]; rfl
    refine J _ _ _ kz (fun m _ _ hm => ?_) (fun hl => absurd ⟨rfl, ?_⟩ hl) ⟨c - 16, a3 c16⟩
    ·have em : m = c - 16 := by have := a3 c16; omega
     rw [ed, em]
    ·rw [size_mk]; exact ul.1
theorem rdecode_spec (D : CallF) (hk : 1200000 ≤ k) (hs : s.size ≤ 4000) : Gx.Wp (ref13_Decode k D s h) fun z => z.1 = bdecV (bl s) ∧ Keeps h z.2 := by
 simp only [ref13_Decode]
 refine .call (rsize_spec D (by omega) (by omega)) fun r1 ⟨k1, q1⟩ => ?_
 have bs : (bl s).length = s.size := bl_length s
 cases hh : headP (bl s) with
 | none =>
  rw [hh] at q1
  have e : bdecV (bl s) = (0, ⟨#[]⟩, 130) := by unfold bdecV bdecP; rw [hh]
  rw [e]
  refine .ifp (by rw [q1]; rfl) (.of ⟨by rw [q1], k1⟩)
 | some x =>
  obtain ⟨c, n, r⟩ := x
  rw [hh] at q1
  obtain ⟨a, q1, ha, er⟩ := q1
  obtain ⟨hkn, hn, hr⟩ := headP_kn hh
  have hc256 := knB_lt hkn
  rw [q1]
  have h0 : ∃ b : UInt8, (bl s)[0]? = some b ∧ b.toNat = c := by
   unfold headP at hh
   split at hh
   ·cases hh
   ·rename_i b t hb
    split at hh
    ·split at hh
     ·cases hh
      exact ⟨b, by rw [hb]; rfl, rfl⟩
     ·cases hh
    ·cases hh
  obtain ⟨b, hb, ebc⟩ := h0
  refine .ifn (by simp) (.bnd (idxS_of hb) ?_)
  rw [ebc, show IntKind.wrap .i64 (c : Int) = (c : Int) from Gx.w64 _ (by omega)]
  have lr : r.length = s.size - a := by rw [er, List.length_drop, bs]
  have sub : Gx.subS s (some (a : Int)) none = some ⟨⟨r⟩⟩ := by
   rw [subS_of (i := a) (j := s.size) rfl rfl ha (Nat.le_refl _), List.take_of_length_le (by omega), er]
  by_cases c16 : c < 16
  ·refine .ifp (by simp; omega) ?_
   dsimp only
   rw [show IntKind.wrap .i64 ((s.size : Int) - (a : Int)) = (r.length : Int) by rw [Gx.w64 _ (by omega)]; omega]
   by_cases cl : r.length = n
   ·refine .ifn (by simp; omega) (.bnd sub (.of ⟨?_, k1⟩))
    unfold bdecV bdecP
    rw [hh]; simp only []
    rw [if_pos c16, if_pos cl]
   ·refine .ifp (by simp; omega) (.of ⟨?_, k1⟩)
    unfold bdecV bdecP
    rw [hh]; simp only []
    rw [if_pos c16, if_neg cl]
  ·refine .ifn (by simp; omega) (.bnd sub (.call (runpack_spec D hk (by rw [size_mk]; omega) (n : Int)) fun r5 ⟨k5, q5⟩ => ?_))
   rw [bl_mk] at q5
   cases hu : unpB r (n : Int) with
   | none =>
    rw [hu] at q5
    refine .ifp (by simpa using q5.2) (.of ⟨?_, k1.trans k5⟩)
    unfold bdecV bdecP
    rw [hh]; simp only []
    rw [if_neg c16, hu]; rfl
   | some tx =>
    rw [hu] at q5
    simp only [] at q5
    rw [q5]
    refine .ifn (by simp) (.of ⟨?_, k1.trans k5⟩)
    unfold bdecV bdecP
    rw [hh]; simp only []
    rw [if_neg c16, hu, show IntKind.wrap .i64 ((c : Int) - 16) = ((c - 16 : Nat) : Int) by rw [Gx.w64 _ (by omega)]; omega]; rfl
noncomputable def opnV (l : List UInt8) (id : ByteArray) : Int × ByteArray × Int := match bdecP l with
 | some (c, t) => if idB c t = id then ((c : Int), ⟨⟨t⟩⟩, 0) else (0, ⟨#[]⟩, 130)
 | none => (0, ⟨#[]⟩, 130)
theorem open_spec (D : CallF) (kg : KG 0 h) (hk : 1200000 ≤ k) (hs : s.size ≤ 4000) (id : ByteArray) : Gx.Wp (blob_Open k D s id h) fun z => z.1 = opnV (bl s) id ∧ Keeps h z.2 := by
 simp only [blob_Open]
 have bs : (bl s).length = s.size := bl_length s
 refine .call (decode_spec D hk hs) fun r1 ⟨q1, k1⟩ => ?_
 unfold opnV
 unfold bdecV at q1
 cases hd : bdecP (bl s) with
 | none =>
  rw [hd] at q1
  rw [q1]
  exact .ifp rfl (.of ⟨rfl, k1⟩)
 | some x =>
  obtain ⟨c, t⟩ := x
  rw [hd] at q1
  simp only [] at q1
  obtain ⟨e1, e2⟩ := decP_kn hd
  rw [q1]
  refine .ifn (by simp) (.call (bid_spec D (kg.chg k1 fun f => f) (by rw [size_mk]; omega) (by omega) (by rw [size_mk]; omega)) fun r2 ⟨q2, k2⟩ => ?_)
  rw [q2, bl_mk, idV_yes e1, Int.toNat_natCast]
  simp only []
  by_cases ci : idB c t = id
  ·rw [if_pos ci]
   exact .ifn (by rw [ba_beq]; simp [ci]) (.of ⟨rfl, k1.trans k2⟩)
  ·rw [if_neg ci]
   exact .ifp (by rw [ba_beq]; simpa using ci) (.of ⟨rfl, k1.trans k2⟩)
theorem ropen_spec13 (D : CallF) (hk : 1200000 ≤ k) (hs : s.size ≤ 4000) (id : ByteArray) : Gx.Wp (ref13_Open k D s id h) fun z => z.1 = opnV (bl s) id ∧ Keeps h z.2 := by
 simp only [ref13_Open]
 have bs : (bl s).length = s.size := bl_length s
 refine .call (rdecode_spec D hk hs) fun r1 ⟨q1, k1⟩ => ?_
 unfold opnV
 unfold bdecV at q1
 cases hd : bdecP (bl s) with
 | none =>
  rw [hd] at q1
  rw [q1]
  exact .ifp rfl (.of ⟨rfl, k1⟩)
 | some x =>
  obtain ⟨c, t⟩ := x
  rw [hd] at q1
  simp only [] at q1
  obtain ⟨e1, e2⟩ := decP_kn hd
  rw [q1]
  refine .ifn (by simp) (.call (rsum_spec D e1 (by rw [size_mk]; omega) (by omega) (by rw [size_mk]; omega)) fun r2 ⟨q2, k2⟩ => ?_)
  rw [q2, bl_mk, Int.toNat_natCast]
  simp only []
  by_cases ci : idB c t = id
  ·rw [if_pos ci]
   exact .ifn (by rw [ba_beq]; simp [ci]) (.of ⟨rfl, k1.trans k2⟩)
  ·rw [if_neg ci]
   exact .ifp (by rw [ba_beq]; simpa using ci) (.of ⟨rfl, k1.trans k2⟩)
theorem works13 (D : CallF) (hk : 1200000 ≤ k) : Gx.Wp (law13_works k D h) fun z => z.1 = true ∧ Keeps h z.2 := by
 simp only [law13_works]
 refine .call (encode_spec D hk) fun r1 ⟨q1, k1⟩ => ?_
 have e : encV 1 (⟨#[97, 98]⟩ : ByteArray) = (⟨#[1, 2, 97, 98]⟩, 0) := by
  rw [encV_yes rfl (by decide)]
  have : encP 1 [97, 98] = [1, 2, 97, 98] := by decide +kernel
  show ((⟨⟨encP 1 [97, 98]⟩⟩ : ByteArray), (0 : Int)) = _
  rw [this]
 rw [q1, e]
 exact .ifp rfl (.of ⟨by rw [ba_beq]; simp, k1⟩)
end
end Ge
namespace Ge
open Go Gx
section
variable {k : Nat} {h : AHeap} {s : ByteArray}
theorem size_spec13 (D : CallF) (hk : 20 ≤ k) (hs : s.size ≤ 1000000) :
  Gx.Wp (blob_Size k D s h) fun z => Keeps h z.2 ∧ match headP (bl s) with
   | some (_, n, _) => z.1 = ((n : Int), 0)
   | none => z.1 = (0, 130) := by
 simp only [blob_Size]
 refine .call (head_spec D hk hs) fun r1 ⟨k1, q1⟩ => .of ⟨k1, ?_⟩
 cases hh : headP (bl s) with
 | none => rw [hh] at q1; simp only [] at q1 ⊢; rw [q1]
 | some x =>
  obtain ⟨c, n, r⟩ := x
  rw [hh] at q1; simp only [] at q1 ⊢; rw [q1]
theorem reads_true (D : CallF) (kg : KG 0 h) (hk : 1200000 ≤ k) (id : ByteArray) : Gx.Wp (law13_BlobReads k D s id h) fun z => z.1 = true := by
 simp only [law13_BlobReads]
 have Wk : ∀ (H : AHeap), Gx.Wp ((law13_works k D H).bind fun r9 => some (r9.1, r9.2)) fun z => z.1 = true := fun H => .call (works13 D hk) fun r ⟨q, _⟩ => .of q
 by_cases cs : 2000 < s.size
 ·refine .call (rsize_any D (by omega)) fun r1 k1 => Wp.jn fun j8 h8 => .ifp (by simp; omega) ?_
  rw [h8]
  exact .ifp rfl (Wk _)
 refine .call (rsize_spec D (by omega) (by omega)) fun r1 ⟨k1, q1⟩ => Wp.jn fun j8 h8 => .ifn (by simp; omega) ?_
 rw [h8]
 cases decide (r1.1.1 > 20000) with
 | true => exact .ifp rfl (Wk _)
 | false =>
  refine .ifn (by decide) ?_
  have kg1 : KG 0 r1.2 := kg.chg k1 fun f => f
  refine .call (size_spec13 D (by omega) (by omega)) fun r10 ⟨k10, q10⟩ => .call (decode_spec D hk (by omega)) fun r11 ⟨q11, k11⟩ => .call (rdecode_spec D hk (by omega)) fun r12 ⟨q12, k12⟩ => ?_
  have kg12 : KG 0 r12.2 := kg1.chg ((k10.trans k11).trans k12) fun f => f
  refine .call (open_spec D kg12 hk (by omega) id) fun r13 ⟨q13, k13⟩ => .call (ropen_spec13 D hk (by omega) id) fun r14 ⟨q14, k14⟩ => ?_
  have e1 : r10.1.1 = r1.1.1 ∧ r10.1.2 = r1.1.2.2 := by
   cases hh : headP (bl s) with
   | none => rw [hh] at q1 q10; simp only [] at q1 q10; rw [q1, q10]; exact ⟨rfl, rfl⟩
   | some x =>
    obtain ⟨c, n, r⟩ := x
    rw [hh] at q1 q10; simp only [] at q1 q10
    obtain ⟨a, q1, _⟩ := q1
    rw [q1, q10]; exact ⟨rfl, rfl⟩
  rw [q11, q12, q13, q14, e1.1, e1.2]
  refine .ifp (by simp) (.ifp (by simp) (.ifp (by simp) (.ifp (by rw [ba_beq]; simp) (.ifp (by simp) (.ifp (by simp) (.ifp (by rw [ba_beq]; simp) (.ifp (by simp) (Wk _))))))))
end
end Ge
namespace Ge
open Go Gx
theorem tru {x : Option (Bool × AHeap)} (w : Gx.Wp x fun z => z.1 = true) : ∃ h', x = some (true, h') := by
 obtain ⟨⟨b, h'⟩, e, q⟩ := w
 exact ⟨h', by rw [e, show b = true from q]⟩
theorem reads_T {k : Nat} (hk : 3000000 ≤ k) (D : CallF) {h : AHeap} (kg : KG 0 h) (s id : ByteArray) : ∃ h', law13_BlobReads k D s id h = some (true, h') := tru (reads_true D kg (by omega) id)
end Ge
