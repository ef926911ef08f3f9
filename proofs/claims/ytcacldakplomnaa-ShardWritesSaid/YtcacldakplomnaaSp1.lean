import Derived.Test.YtcacldakplomnaaFn1
namespace Gb
open Go Gx
theorem wraps_u32 (n : Int) (h₀ : 0 ≤ n) (h₁ : n < 2 ^ 32) : IntKind.u32.wrap n = n := by rw [Go.IntKind.wrap_u32]; omega
theorem xor32 {a b : Nat} (ha : a < 2 ^ 32) (hb : b < 2 ^ 32) : Go.bits .xor .u32 (a : Int) (b : Int) = ((a ^^^ b : Nat) : Int) := bx .u32 32 (by decide) wraps_u32 a b ha hb
theorem and32 {a b : Nat} (ha : a < 2 ^ 32) (hb : b < 2 ^ 32) : Go.bits .and .u32 (a : Int) (b : Int) = ((a &&& b : Nat) : Int) := (bits_nat .u32 32 (by decide) wraps_u32 a b ha hb).1
def crcBit (r : Nat) : Nat := if r % 2 = 1 then (r / 2) ^^^ 2197175160 else r / 2
def crcBits : Nat → Nat → Nat
  | 0, r => r
  | n + 1, r => crcBits n (crcBit r)
def crcN (r : Nat) : List UInt8 → Nat
  | [] => r
  | c :: l => crcN (crcBits 8 (r ^^^ c.toNat)) l
def crc (l : List UInt8) : Nat := crcN 4294967295 l ^^^ 4294967295
theorem crcBit_lt {r : Nat} (h : r < 4294967296) : crcBit r < 4294967296 := by
  unfold crcBit
  split
  · exact Nat.xor_lt_two_pow (n := 32) (by omega) (by decide)
  · omega
theorem crcBits_lt : ∀ (n : Nat) {r : Nat}, r < 4294967296 → crcBits n r < 4294967296
  | 0, _, h => h
  | n + 1, _, h => crcBits_lt n (crcBit_lt h)
theorem byte_lt (c : UInt8) : c.toNat < 256 := UInt8.toNat_lt c
theorem xorc_lt {r : Nat} (c : UInt8) (h : r < 4294967296) : r ^^^ c.toNat < 4294967296 := Nat.xor_lt_two_pow (n := 32) h (by have := byte_lt c; omega)
theorem crcN_lt : ∀ (l : List UInt8) {r : Nat}, r < 4294967296 → crcN r l < 4294967296
  | [], _, h => h
  | c :: l, _, h => crcN_lt l (crcBits_lt 8 (xorc_lt c h))
theorem crc_lt (l : List UInt8) : crc l < 4294967296 := Nat.xor_lt_two_pow (n := 32) (crcN_lt l (by decide)) (by decide)
theorem bit_u32 {r : Nat} (h : r < 4294967296) :
    Go.bits .xor .u32 (Int.fdiv (r : Int) 2) (Go.bits .and .u32 2197175160 (IntKind.wrap .u32 (0 - Go.bits .and .u32 (r : Int) 1))) = (crcBit r : Int) := by
  have e1 : Go.bits .and .u32 (r : Int) 1 = ((r % 2 : Nat) : Int) := by
    have := and32 (a := r) (b := 1) h (by decide)
    rw [Nat.and_one_is_mod] at this
    exact this
  have e2 : Int.fdiv (r : Int) 2 = ((r / 2 : Nat) : Int) := by
    rw [Int.fdiv_eq_ediv_of_nonneg _ (by decide)]; simp
  rw [e1, e2]
  unfold crcBit
  rcases Nat.mod_two_eq_zero_or_one r with h0 | h1
  · rw [h0]
    have : Go.bits .and .u32 2197175160 (IntKind.wrap .u32 (0 - ((0 : Nat) : Int))) = ((0 : Nat) : Int) := by decide +kernel
    rw [this, xor32 (by omega) (by decide)]
    simp
  · rw [h1]
    have : Go.bits .and .u32 2197175160 (IntKind.wrap .u32 (0 - ((1 : Nat) : Int))) = ((2197175160 : Nat) : Int) := by decide +kernel
    rw [this, xor32 (by omega) (by decide)]
    simp
theorem bit_i64 {r : Nat} (h : r < 4294967296) (h1 : r % 2 = 1) : Go.bits .xor .i64 (((r / 2 : Nat) : Int)) 2197175160 = (crcBit r : Int) := by
  have := xor64 (a := r / 2) (b := 2197175160) (by omega) (by decide)
  rw [show ((2197175160 : Nat) : Int) = 2197175160 from rfl] at this
  rw [this]; unfold crcBit; rw [if_pos h1]
theorem not_u32 {r : Nat} (h : r < 4294967296) : Go.bits .xor .u32 (IntKind.max .u32) (r : Int) = ((r ^^^ 4294967295 : Nat) : Int) := by
  have e : IntKind.max .u32 = ((4294967295 : Nat) : Int) := by decide +kernel
  rw [e, xor32 (by decide) h, Nat.xor_comm]
end Gb
namespace Gb
open Go Gx Go.Proofs
theorem tm2 (r : Nat) : Int.tmod (r : Int) 2 = ((r % 2 : Nat) : Int) := rfl
theorem td2 (r : Nat) : Int.tdiv (r : Int) 2 = ((r / 2 : Nat) : Int) := rfl
theorem crc_l1 (K : Nat) (D : CallF) (j) (bot) (y : Slc) (n i0 : Int) (h : AHeap) : ∀ (m i r : Nat), i + m = 8 → r < 4294967296 →
    iterK bot (m + 1) (shard_Crc_l1b K D j) (r : Int) y n i0 (i : Int) h = j (crcBits m r : Nat) y n i0 h
  | 0, i, r, hi, hr => by
    obtain rfl : i = 8 := by omega
    rw [iterK_s]; simp only [shard_Crc_l1b]
    exact ifn (by decide) rfl
  | m + 1, i, r, hi, hr => by
    rw [iterK_s]; simp only [shard_Crc_l1b]
    refine ifp (by simp; omega) ?_
    rw [bit_u32 hr, w1 (by omega), show crcBits (m + 1) r = crcBits m (crcBit r) from rfl]
    exact crc_l1 K D j bot y n i0 h m (i + 1) (crcBit r) (by omega) (crcBit_lt hr)
theorem crc_l0 {k : Nat} (hk : 9 ≤ k) (D : CallF) (j) (bot) {h : AHeap} {b : Nat} {l : List UInt8} {e : TypeId} {rw' : Bool} {fz cap : Nat} {sp : Option Nat} (hb : h.get b = some (.cells (l.map encB) e rw' fz)) (hs : l.length < 9223372036854775807) : ∀ (m i r : Nat), i + m = l.length → r < 4294967296 →
    iterK bot (m + 1) (shard_Crc_l0b k D j) (r : Int) (⟨some ⟨b, 0, sp⟩, l.length, cap⟩ : Slc) (l.length : Int) (i : Int) h = j (crcN r (l.drop i) : Nat) h
  | 0, i, r, hi, hr => by
    obtain rfl : i = l.length := by omega
    rw [iterK_s]; simp only [shard_Crc_l0b]
    refine ifn (by simp) ?_
    rw [List.drop_length]; rfl
  | m + 1, i, r, hi, hr => by
    rw [iterK_s]; simp only [shard_Crc_l0b]
    refine ifp (by simp; omega) ?_
    obtain ⟨x, hx⟩ := isome (l := l) (i := i) (by omega)
    refine jn ?_
    refine bnd (idxL_out (by omega)) ?_
    refine bnd (rdB_out hb hx) ?_
    have hx' := byte_lt x
    have e1 : IntKind.wrap .u32 (x.toNat : Int) = (x.toNat : Int) := wraps_u32 _ (by omega) (by omega)
    rw [e1, xor32 hr (by omega)]
    unfold shard_Crc_l1
    obtain ⟨bot', e2⟩ := iterK_of (α := Int → Slc → Int → Int → Int → AHeap → Option ((Int) × AHeap)) (fun _ _ _ _ _ _ => none) (shard_Crc_l1b k D fun (r12 : Int) (y13 : Slc) (y14 : Int) (y15 : Int) (h16 : AHeap) => iterK bot (m + 1) (shard_Crc_l0b k D j) r12 y13 y14 (IntKind.wrap .i64 (y15 + 1)) h16) hk
    rw [e2]
    have := crc_l1 k D (fun (r12 : Int) (y13 : Slc) (y14 : Int) (y15 : Int) (h16 : AHeap) => iterK bot (m + 1) (shard_Crc_l0b k D j) r12 y13 y14 (IntKind.wrap .i64 (y15 + 1)) h16) bot' (⟨some ⟨b, 0, sp⟩, l.length, cap⟩ : Slc) (l.length : Int) (i : Int) h 8 0 (r ^^^ x.toNat) (by omega) (xorc_lt x hr)
    refine this.trans ?_
    rw [w1 (by omega), dropc hx]
    exact crc_l0 hk D j bot hb hs m (i + 1) _ (by omega) (crcBits_lt 8 (xorc_lt x hr))
theorem crc_spec {k : Nat} (hk : 9 ≤ k) (D : CallF) (s : ByteArray) (h : AHeap) (hs : s.size < k) (hs2 : s.size < 9223372036854775807) : shard_Crc k D s h = some (((crc (bl s) : Nat) : Int), h.new (.cells (bytesL s) 5 true 0)) := by
  simp only [shard_Crc]
  refine jn ?_
  unfold shard_Crc_l0
  have hl := bl_length s
  obtain ⟨bot', e2⟩ := iterK_of (α := Int → Slc → Int → Int → AHeap → Option ((Int) × AHeap)) (fun _ _ _ _ _ => none) (shard_Crc_l0b k D fun (r1 : Int) (h2 : AHeap) => some (IntKind.wrap .i64 (Go.bits .xor .u32 (IntKind.max .u32) r1), h2)) (show s.size + 1 ≤ k from hs)
  rw [e2]
  have := crc_l0 (k := k) hk D (fun (r1 : Int) (h2 : AHeap) => some (IntKind.wrap .i64 (Go.bits .xor .u32 (IntKind.max .u32) r1), h2)) bot' (h := h.new (.cells (bytesL s) 5 true 0)) (b := h.next) (l := bl s) (e := 5) (rw' := true) (fz := 0) (cap := s.size) (sp := some 2) (by simp [bytesL_bl]) (by omega) s.size 0 4294967295 (by omega) (by decide)
  rw [hl] at this
  refine this.trans ?_
  simp only [List.drop_zero]
  have hc := crcN_lt (bl s) (r := 4294967295) (by decide)
  rw [not_u32 hc]
  have hcc := crc_lt (bl s)
  show some (IntKind.wrap .i64 ((crc (bl s) : Nat) : Int), _) = _
  rw [w64 _ (by omega)]
theorem rcrc_l1 (K : Nat) (D : CallF) (j) (bot) (s : ByteArray) (i0 : Int) (h : AHeap) : ∀ (m i r : Nat), i + m = 8 → r < 4294967296 →
    iterK bot (m + 1) (ref06_Crc_l1b K D j) s (r : Int) i0 (i : Int) h = j s (crcBits m r : Nat) i0 h
  | 0, i, r, hi, hr => by
    obtain rfl : i = 8 := by omega
    rw [iterK_s]; simp only [ref06_Crc_l1b]
    exact ifn (by decide) rfl
  | m + 1, i, r, hi, hr => by
    rw [iterK_s]; simp only [ref06_Crc_l1b]
    refine ifp (by simp; omega) ?_
    refine jn ?_
    have e2 : IntKind.wrap .i64 (Int.tdiv (r : Int) 2) = ((r / 2 : Nat) : Int) := by rw [td2, w64 _ (by omega)]
    rw [tm2, e2]
    rcases Nat.mod_two_eq_zero_or_one r with h0 | h1
    · refine ifn (by rw [h0]; decide) ?_
      show iterK bot (m + 1) (ref06_Crc_l1b K D j) s _ i0 (IntKind.wrap .i64 ((i : Int) + 1)) h = _
      rw [w1 (by omega), show crcBits (m + 1) r = crcBits m (crcBit r) from rfl]
      have := rcrc_l1 K D j bot s i0 h m (i + 1) (crcBit r) (by omega) (crcBit_lt hr)
      rw [show crcBit r = r / 2 by unfold crcBit; rw [if_neg (by omega)]] at this
      refine this.trans ?_
      rw [show crcBit r = r / 2 by unfold crcBit; rw [if_neg (by omega)]]
    · refine ifp (by rw [h1]; decide) ?_
      rw [bit_i64 hr h1]
      show iterK bot (m + 1) (ref06_Crc_l1b K D j) s _ i0 (IntKind.wrap .i64 ((i : Int) + 1)) h = _
      rw [w1 (by omega), show crcBits (m + 1) r = crcBits m (crcBit r) from rfl]
      exact rcrc_l1 K D j bot s i0 h m (i + 1) (crcBit r) (by omega) (crcBit_lt hr)
theorem rcrc_l0 {k : Nat} (hk : 9 ≤ k) (D : CallF) (j) (bot) (s : ByteArray) (h : AHeap) (hs : s.size < 9223372036854775807) : ∀ (m i r : Nat), i + m = s.size → r < 4294967296 →
    iterK bot (m + 1) (ref06_Crc_l0b k D j) s (r : Int) (i : Int) h = j (crcN r ((bl s).drop i) : Nat) h
  | 0, i, r, hi, hr => by
    obtain rfl : i = s.size := by omega
    rw [iterK_s]; simp only [ref06_Crc_l0b]
    refine ifn (by simp) ?_
    rw [List.drop_eq_nil_of_le (by rw [bl_length]; omega)]; rfl
  | m + 1, i, r, hi, hr => by
    rw [iterK_s]; simp only [ref06_Crc_l0b]
    refine ifp (by simp; omega) ?_
    obtain ⟨x, hx⟩ := isome (l := bl s) (i := i) (by rw [bl_length]; omega)
    refine jn ?_
    refine bnd (idxS_of hx) ?_
    have hx' := byte_lt x
    have e1 : IntKind.wrap .i64 (x.toNat : Int) = (x.toNat : Int) := w64 _ (by omega)
    rw [e1, xor64 (by omega) (by omega)]
    unfold ref06_Crc_l1
    obtain ⟨bot', e2⟩ := iterK_of (α := ByteArray → Int → Int → Int → AHeap → Option ((Int) × AHeap)) (fun _ _ _ _ _ => none) (ref06_Crc_l1b k D fun (s9 : ByteArray) (r10 : Int) (i11 : Int) (h12 : AHeap) => iterK bot (m + 1) (ref06_Crc_l0b k D j) s9 r10 (IntKind.wrap .i64 (i11 + 1)) h12) hk
    rw [e2]
    have := rcrc_l1 k D (fun (s9 : ByteArray) (r10 : Int) (i11 : Int) (h12 : AHeap) => iterK bot (m + 1) (ref06_Crc_l0b k D j) s9 r10 (IntKind.wrap .i64 (i11 + 1)) h12) bot' s (i : Int) h 8 0 (r ^^^ x.toNat) (by omega) (xorc_lt x hr)
    refine this.trans ?_
    rw [w1 (by omega), dropc hx]
    exact rcrc_l0 hk D j bot s h hs m (i + 1) _ (by omega) (crcBits_lt 8 (xorc_lt x hr))
theorem rcrc_spec {k : Nat} (hk : 9 ≤ k) (D : CallF) (s : ByteArray) (h : AHeap) (hs : s.size < k) (hs2 : s.size < 9223372036854775807) : ref06_Crc k D s h = some (((crc (bl s) : Nat) : Int), h) := by
  simp only [ref06_Crc]
  refine jn ?_
  unfold ref06_Crc_l0
  obtain ⟨bot', e2⟩ := iterK_of (α := ByteArray → Int → Int → AHeap → Option ((Int) × AHeap)) (fun _ _ _ _ => none) (ref06_Crc_l0b k D fun (r1 : Int) (h2 : AHeap) => some (Go.bits .xor .i64 r1 4294967295, h2)) (show s.size + 1 ≤ k from hs)
  rw [e2]
  have := rcrc_l0 (k := k) hk D (fun (r1 : Int) (h2 : AHeap) => some (Go.bits .xor .i64 r1 4294967295, h2)) bot' s h hs2 s.size 0 4294967295 (by omega) (by decide)
  refine this.trans ?_
  simp only [List.drop_zero]
  have hc := crcN_lt (bl s) (r := 4294967295) (by decide)
  have e : Go.bits .xor .i64 ((crcN 4294967295 (bl s) : Nat) : Int) 4294967295 = ((crc (bl s) : Nat) : Int) := by
    have := xor64 (a := crcN 4294967295 (bl s)) (b := 4294967295) (by omega) (by decide)
    exact this
  rw [e]
theorem crc_example : crc [49, 50, 51, 52, 53, 54, 55, 56, 57] = 3808858755 := by decide +kernel
theorem works_spec {k : Nat} (hk : 20 ≤ k) (D : CallF) (h : AHeap) : ∃ h', law06_works k D h = some (true, h') ∧ Keeps h h' := by
  simp only [law06_works]
  refine ⟨h.new (.cells (bytesL (⟨#[49, 50, 51, 52, 53, 54, 55, 56, 57]⟩ : ByteArray)) 5 true 0), bnd (crc_spec (by omega) D _ h (by show 9 < k; omega) (by decide)) ?_, Keeps.new _ _⟩
  have : bl (⟨#[49, 50, 51, 52, 53, 54, 55, 56, 57]⟩ : ByteArray) = [49, 50, 51, 52, 53, 54, 55, 56, 57] := rfl
  simp only [this, crc_example]
  rfl
end Gb
namespace Gb
open Go Gx
def fixL (n : Nat) : Nat → List UInt8
  | 0 => []
  | k + 1 => UInt8.ofNat (n / 256 ^ k) :: fixL n k
theorem fixL_length (n : Nat) : ∀ k, (fixL n k).length = k
  | 0 => rfl
  | k + 1 => by simp [fixL, fixL_length n k]
theorem fixL_get (n : Nat) : ∀ (k i : Nat), i < k → (fixL n k)[i]? = some (UInt8.ofNat (n / 256 ^ (k - 1 - i)))
  | 0, i, h => by omega
  | k + 1, 0, _ => by simp [fixL]
  | k + 1, i + 1, h => by
    simp only [fixL, List.getElem?_cons_succ]
    rw [fixL_get n k i (by omega)]
    congr 4; omega
def numL (a : Nat) : List UInt8 → Nat
  | [] => a
  | c :: l => numL (a * 256 + c.toNat) l
theorem toNat_ofNat (n : Nat) : (UInt8.ofNat n).toNat = n % 256 := by simp
theorem ofNat_mod (n : Nat) : UInt8.ofNat (n % 256) = UInt8.ofNat n := by
  apply UInt8.toNat_inj.1
  rw [toNat_ofNat, toNat_ofNat]; omega
end Gb
namespace Gb
open Go Gx Go.Proofs
theorem ldI_at {h : AHeap} {b o : Nat} {sp : Option Nat} {c : List Value} {e : TypeId} {r : Bool} {fz : Nat} {k : IntKind} {x : Int} (hb : h.get b = some (.cells c e r fz)) (hc : c[o]? = some (.int k x)) : ldI k ⟨b, o, sp⟩ h = some x := by
  simp [ldI, AHeap.rd1, hb, hc, decI]
theorem ldS_at {h : AHeap} {b o : Nat} {sp : Option Nat} {c : List Value} {e : TypeId} {r : Bool} {fz : Nat} {x : ByteArray} (hb : h.get b = some (.cells c e r fz)) (hc : c[o]? = some (.string x)) : ldS ⟨b, o, sp⟩ h = some x := by
  simp [ldS, AHeap.rd1, hb, hc, decS]
theorem ldA_at {h : AHeap} {b n : Nat} {sp : Option Nat} {c : List Value} {e : TypeId} {r : Bool} {fz : Nat} (hb : h.get b = some (.cells c e r fz)) (hc : c.length = n) : ldA n ⟨b, 0, sp⟩ h = some c := by
  subst hc; exact rdL_all hb
theorem wu8 (m : Nat) : IntKind.wrap .u8 (m : Int) = ((m % 256 : Nat) : Int) := by rw [Go.IntKind.wrap_u8]; omega
theorem td256 (r : Nat) : Int.tdiv (r : Int) 256 = ((r / 256 : Nat) : Int) := rfl
def fixP (n k i : Nat) : List UInt8 := (List.range k).map fun j => if k ≤ j + i then UInt8.ofNat (n / 256 ^ (k - 1 - j)) else 0
theorem fixP_length (n k i : Nat) : (fixP n k i).length = k := by simp [fixP]
theorem fixP_zero (n k : Nat) : fixP n k 0 = List.replicate k 0 := by
  apply List.ext_getElem?
  intro j
  simp only [fixP, List.getElem?_map, List.getElem?_replicate]
  by_cases hj : j < k
  · simp [hj]; omega
  · simp [hj]
theorem fixP_all (n k : Nat) : fixP n k k = fixL n k := by
  apply List.ext_getElem?
  intro j
  by_cases hj : j < k
  · rw [fixL_get n k j hj]; simp [fixP, hj]
  · rw [List.getElem?_eq_none (by rw [fixP_length]; omega), List.getElem?_eq_none (by rw [fixL_length]; omega)]
theorem fixP_set {n k i : Nat} (hi : i < k) : (fixP n k i).set (k - 1 - i) (UInt8.ofNat (n / 256 ^ i)) = fixP n k (i + 1) := by
  apply List.ext_getElem?
  intro j
  by_cases hj : j < k
  · rw [List.getElem?_set]
    by_cases he : k - 1 - i = j
    · rw [if_pos he, if_pos (by rw [fixP_length]; omega)]
      have : i = k - 1 - j := by omega
      subst this
      simp [fixP, hj]
      omega
    · rw [if_neg he]
      simp only [fixP, List.getElem?_map, List.getElem?_range hj, Option.map_some, Option.some.injEq]
      by_cases h1 : k ≤ j + i
      · rw [if_pos h1, if_pos (by omega)]
      · rw [if_neg h1, if_neg (by omega)]
  · rw [List.getElem?_eq_none (by rw [List.length_set, fixP_length]; omega), List.getElem?_eq_none (by rw [fixP_length]; omega)]
abbrev nfT := Int → Int → Slc → Int → Int → AHeap → Option ((ByteArray × Int) × AHeap)
theorem fix_l0 (K : Nat) (D : CallF) (j) (bot : nfT) {n k : Nat} (hn : n < 9223372036854775808) (hk : k ≤ 7) {b cap : Nat} {sp : Option Nat} {e : TypeId} : ∀ (m i : Nat) (h : AHeap), i + m = k → h.get b = some (.cells ((fixP n k i).map encB) e true 0) →
    iterK bot (m + 1) (num_Fixed_l0b K D j) (n : Int) (k : Int) (⟨some ⟨b, 0, sp⟩, k, cap⟩ : Slc) (k : Int) (i : Int) h = j (n : Int) (k : Int) (⟨some ⟨b, 0, sp⟩, k, cap⟩ : Slc) (h.set b (.cells ((fixL n k).map encB) e true 0))
  | 0, i, h, hi, hb => by
    obtain rfl : i = k := by omega
    rw [fixP_all] at hb
    rw [iterK_s]; simp only [num_Fixed_l0b]
    refine ifn (by simp) ?_
    rw [set_self hb]
  | m + 1, i, h, hi, hb => by
    rw [iterK_s]; simp only [num_Fixed_l0b]
    refine ifp (by simp; omega) ?_
    have e1 : IntKind.wrap .i64 (8 * (i : Int)) = ((8 * i : Nat) : Int) := by rw [w64 _ (by omega)]; omega
    have e2 : IntKind.wrap .i64 (IntKind.wrap .i64 ((k : Int) - 1) - (i : Int)) = ((k - 1 - i : Nat) : Int) := by rw [w64 ((k : Int) - 1) (by omega), w64 _ (by omega)]; omega
    rw [e1, e2]
    refine ifp (by omega) ?_
    refine bnd (idxL_out (by omega)) ?_
    rw [shr64 n (8 * i) (by omega), wu8]
    refine bnd (stB_out hb (by rw [fixP_length]; omega) (Nat.mod_lt _ (by decide))) ?_
    rw [w1 (by omega), ofNat_mod, Nat.pow_mul, show (2 : Nat) ^ 8 = 256 from rfl, fixP_set (by omega)]
    refine (fix_l0 K D j bot hn hk (e := e) m (i + 1) (h.set b (.cells ((fixP n k (i + 1)).map encB) e true 0)) (by omega) (by simp)).trans ?_
    rw [set_set]
theorem nfix_spec {kf : Nat} (hkf : 9 ≤ kf) (D : CallF) (n k : Nat) (h : AHeap) (hk1 : 1 ≤ k) (hk7 : k ≤ 7) (hn : n < 9223372036854775808) :
    ∃ h', num_Fixed kf D (n : Int) (k : Int) h = some ((if n < 256 ^ k then ((⟨⟨fixL n k⟩⟩ : ByteArray), 0) else ((⟨#[]⟩ : ByteArray), 1)), h') ∧ Keeps h h' := by
  simp only [num_Fixed]
  let H := (h.new (.cells ((List.replicate k (0 : UInt8)).map encB) 5 true 0)).set h.next (.cells ((fixL n k).map encB) 5 true 0)
  refine ⟨H, ?_, Chg.beh (Keeps.new h _) (Chg.set (S := fun x => x = h.next) (.inr rfl)) (fun x hx e => by have : x = h.next := e; omega)⟩
  refine jn ?_
  refine ifn (by simp <;> omega) ?_
  refine ifn (by simp <;> omega) ?_
  refine ifn (by simp <;> omega) ?_
  refine ifp (by omega) ?_
  refine jn ?_
  rw [Int.toNat_natCast, zeros_bytes]
  unfold num_Fixed_l0
  have hb : (h.new (.cells ((List.replicate k (0 : UInt8)).map encB) 5 true 0)).get h.next = some (.cells ((fixP n k 0).map encB) 5 true 0) := by rw [fixP_zero]; simp
  generalize hj : (fun (n7 : Int) (bytes8 : Int) (b9 : Slc) (h10 : AHeap) => joinK _ _) = j
  obtain ⟨bot', e2⟩ := iterK_of (α := nfT) (fun _ _ _ _ _ _ => none) (num_Fixed_l0b kf D j) (show k + 1 ≤ kf by omega)
  rw [e2]
  refine (fix_l0 kf D j bot' hn hk7 k 0 _ (by omega) hb).trans ?_
  subst hj
  refine jn ?_
  refine ifp (by simp; omega) ?_
  have e1 : IntKind.wrap .i64 (8 * (k : Int)) = ((8 * k : Nat) : Int) := by rw [w64 _ (by omega)]; omega
  rw [e1]
  refine ifp (by omega) ?_
  rw [shr64 n (8 * k) (by omega), Nat.pow_mul, show (2 : Nat) ^ 8 = 256 from rfl]
  by_cases hlt : n < 256 ^ k
  · rw [if_pos hlt]
    refine ifn (by simp [Nat.div_eq_of_lt hlt]) ?_
    have hg : H.get h.next = some (.cells ((fixL n k).map encB) 5 true 0) := by simp [H]
    have := bytesOf_out (cap := k) (sp := some 0) hg
    rw [fixL_length] at this
    exact bnd this rfl
  · rw [if_neg hlt]
    refine ifp ?_ rfl
    have : 0 < n / 256 ^ k := Nat.div_pos (by omega) (Nat.pow_pos (by decide))
    exact decide_eq_true (by omega)
abbrev rfT := Int → Slc → Int → AHeap → Option ((ByteArray × Int) × AHeap)
theorem rfix_l0 (K : Nat) (D : CallF) (j) (bot : rfT) {n k : Nat} (hn : n < 9223372036854775808) (hk : k ≤ 8) {b cap : Nat} {sp : Option Nat} {e : TypeId} : ∀ (m i : Nat) (h : AHeap), i + m = k → h.get b = some (.cells ((fixP n k i).map encB) e true 0) →
    iterK bot (m + 1) (ref01_Fixed_l0b K D j) ((n / 256 ^ i : Nat) : Int) (⟨some ⟨b, 0, sp⟩, k, cap⟩ : Slc) ((k : Int) - 1 - (i : Int)) h = j (⟨some ⟨b, 0, sp⟩, k, cap⟩ : Slc) (h.set b (.cells ((fixL n k).map encB) e true 0))
  | 0, i, h, hi, hb => by
    obtain rfl : i = k := by omega
    rw [fixP_all] at hb
    rw [iterK_s]; simp only [ref01_Fixed_l0b]
    refine ifn (by simp <;> omega) ?_
    rw [set_self hb]
  | m + 1, i, h, hi, hb => by
    rw [iterK_s]; simp only [ref01_Fixed_l0b]
    refine ifp (by simp; omega) ?_
    have e2 : ((k : Int) - 1 - (i : Int)) = ((k - 1 - i : Nat) : Int) := by omega
    rw [e2]
    refine bnd (idxL_out (by omega)) ?_
    rw [wu8]
    refine bnd (stB_out hb (by rw [fixP_length]; omega) (Nat.mod_lt _ (by decide))) ?_
    have hle : n / 256 ^ i ≤ n := Nat.div_le_self _ _
    have hle2 : n / 256 ^ i / 256 ≤ n / 256 ^ i := Nat.div_le_self _ _
    rw [td256, w64 ((n / 256 ^ i / 256 : Nat) : Int) (by omega), w64 (((k - 1 - i : Nat) : Int) - 1) (by omega), ofNat_mod, fixP_set (by omega)]
    have e3 : n / 256 ^ i / 256 = n / 256 ^ (i + 1) := by rw [Nat.div_div_eq_div_mul, Nat.pow_succ]
    have e4 : (((k - 1 - i : Nat) : Int) - 1) = (k : Int) - 1 - ((i + 1 : Nat) : Int) := by omega
    rw [e3, e4]
    refine (rfix_l0 K D j bot hn hk (e := e) m (i + 1) (h.set b (.cells ((fixP n k (i + 1)).map encB) e true 0)) (by omega) (by simp)).trans ?_
    rw [set_set]
theorem must_spec {kf : Nat} (hkf : 9 ≤ kf) (D : CallF) (n k : Nat) (h : AHeap) (hk1 : 1 ≤ k) (hk7 : k ≤ 7) (hn : n < 9223372036854775808) (hlt : n < 256 ^ k) :
    ∃ h', ref01_Must kf D (n : Int) (k : Int) h = some ((⟨⟨fixL n k⟩⟩ : ByteArray), h') ∧ Keeps h h' := by
  simp only [ref01_Must]
  let H := (h.new (.cells ((List.replicate k (0 : UInt8)).map encB) 5 true 0)).set h.next (.cells ((fixL n k).map encB) 5 true 0)
  refine ⟨H, bnd (v := (((⟨⟨fixL n k⟩⟩ : ByteArray), 0), H)) ?_ rfl, Chg.beh (Keeps.new h _) (Chg.set (S := fun x => x = h.next) (.inr rfl)) (fun x hx e => by have : x = h.next := e; omega)⟩
  simp only [ref01_Fixed]
  refine jn ?_
  refine ifn (by simp <;> omega) ?_
  refine ifn (by simp <;> omega) ?_
  refine ifn (by simp <;> omega) ?_
  refine ifp (by simp; omega) ?_
  have e1 : IntKind.wrap .i64 (8 * (k : Int)) = ((8 * k : Nat) : Int) := by rw [w64 _ (by omega)]; omega
  rw [e1]
  refine ifp (by omega) ?_
  rw [shr64 n (8 * k) (by omega), Nat.pow_mul, show (2 : Nat) ^ 8 = 256 from rfl]
  refine ifn (by simp [Nat.div_eq_of_lt hlt]) ?_
  refine ifp (by omega) ?_
  refine jn ?_
  rw [Int.toNat_natCast, zeros_bytes]
  unfold ref01_Fixed_l0
  have hb : (h.new (.cells ((List.replicate k (0 : UInt8)).map encB) 5 true 0)).get h.next = some (.cells ((fixP n k 0).map encB) 5 true 0) := by rw [fixP_zero]; simp
  generalize hj : (fun (b7 : Slc) (h8 : AHeap) => (bytesOf h8 b7).bind _) = j
  obtain ⟨bot', e2⟩ := iterK_of (α := rfT) (fun _ _ _ _ => none) (ref01_Fixed_l0b kf D j) (show k + 1 ≤ kf by omega)
  rw [e2, w64 ((k : Int) - 1) (by omega)]
  have := rfix_l0 kf D j bot' (n := n) (k := k) hn (by omega) (b := h.next) (cap := k) (sp := some 0) (e := 5) k 0 _ (by omega) hb
  simp only [Nat.pow_zero, Nat.div_one, Int.natCast_zero, Int.sub_zero] at this
  refine this.trans ?_
  subst hj
  have hg : H.get h.next = some (.cells ((fixL n k).map encB) 5 true 0) := by simp [H]
  have := bytesOf_out (cap := k) (sp := some 0) hg
  rw [fixL_length] at this
  exact bnd this rfl
end Gb
namespace Gb
open Go Gx Go.Proofs
theorem num_step {a i n : Nat} (h : a < 256 ^ i) (hi : i < n) (hn : n ≤ 7) : a * 256 + 256 ≤ 72057594037927936 := by
  have h1 : 256 ^ i ≤ 256 ^ 6 := Nat.pow_le_pow_right (by decide) (by omega)
  have : (256 : Nat) ^ 6 = 281474976710656 := by decide
  omega
theorem num_step2 {a i : Nat} {c : UInt8} (h : a < 256 ^ i) : a * 256 + c.toNat < 256 ^ (i + 1) := by
  have hc : c.toNat < 256 := UInt8.toNat_lt c
  rw [Nat.pow_succ]; omega
abbrev nuT := ByteArray → Int → Int → AHeap → Option ((Int) × AHeap)
theorem num_l0 (K : Nat) (D : CallF) (j) (bot : nuT) (s : ByteArray) (h : AHeap) (hs : s.size ≤ 7) : ∀ (m i a : Nat), i + m = s.size → a < 256 ^ i →
    iterK bot (m + 1) (ref01_Num_l0b K D j) s (a : Int) (i : Int) h = j ((numL a ((bl s).drop i) : Nat) : Int) h
  | 0, i, a, hi, ha => by
    obtain rfl : i = s.size := by omega
    rw [iterK_s]; simp only [ref01_Num_l0b]
    refine ifn (by simp) ?_
    rw [List.drop_eq_nil_of_le (by rw [bl_length]; omega)]; rfl
  | m + 1, i, a, hi, ha => by
    rw [iterK_s]; simp only [ref01_Num_l0b]
    refine ifp (by simp; omega) ?_
    obtain ⟨x, hx⟩ := isome (l := bl s) (i := i) (by rw [bl_length]; omega)
    refine bnd (idxS_of hx) ?_
    have hx' : x.toNat < 256 := UInt8.toNat_lt x
    have hb := num_step ha (show i < s.size by omega) hs
    have e1 : IntKind.wrap .i64 (IntKind.wrap .i64 ((a : Int) * 256) + IntKind.wrap .i64 (x.toNat : Int)) = ((a * 256 + x.toNat : Nat) : Int) := by
      rw [w64 ((a : Int) * 256) (by omega), w64 (x.toNat : Int) (by omega), w64 _ (by omega)]; omega
    rw [e1, w1 (by omega), dropc hx]
    exact num_l0 K D j bot s h hs m (i + 1) _ (by omega) (num_step2 ha)
theorem rnum_spec {kf : Nat} (hkf : 9 ≤ kf) (D : CallF) (s : ByteArray) (h : AHeap) (hs : s.size ≤ 7) : ref01_Num kf D s h = some (((numL 0 (bl s) : Nat) : Int), h) := by
  simp only [ref01_Num]
  refine jn ?_
  unfold ref01_Num_l0
  obtain ⟨bot', e2⟩ := iterK_of (α := nuT) (fun _ _ _ _ => none) (ref01_Num_l0b kf D fun (n1 : Int) (h2 : AHeap) => some (n1, h2)) (show s.size + 1 ≤ kf by omega)
  rw [e2]
  have := num_l0 kf D (fun (n1 : Int) (h2 : AHeap) => some (n1, h2)) bot' s h hs s.size 0 0 (by omega) (by decide)
  refine this.trans ?_
  rw [List.drop_zero]
def Rdr (h : AHeap) (b : Nat) (s : ByteArray) (e : Int) : Prop := h.get b = some (.cells [.string s, .int .i64 e] 108 true 0)
theorem Rdr.chg {S : Nat → Prop} {h h' : AHeap} {b : Nat} {s : ByteArray} {e : Int} (R : Rdr h b s e) (c : Chg S h h') (hb : ¬ S b) (hl : b < h.next) : Rdr h' b s e := (c.oth b hl hb).trans R
def OnlyB (b : Nat) : Nat → Prop := fun x => x = b
theorem read_spec (k : Nat) (D : CallF) (s : ByteArray) (h : AHeap) : num_Read k D s h = some (some ⟨h.next, 0, none⟩, h.new (.cells [.string s, .int .i64 0] 108 true 0)) := rfl
theorem fail_spec (k : Nat) (D : CallF) {h : AHeap} {b : Nat} {s : ByteArray} {e : Int} (R : Rdr h b s e) (c : Int) :
    ∃ h', num_Reader_Fail k D (some ⟨b, 0, none⟩) c h = some ((), h') ∧ Rdr h' b s (if e = 0 then c else e) ∧ Chg (OnlyB b) h h' := by
  simp only [num_Reader_Fail, Option.bind_some]
  by_cases he : e = 0
  · subst he
    refine ⟨h.set b (.cells [.string s, .int .i64 c] 108 true 0), ?_, by simp [Rdr], Chg.set (.inr rfl)⟩
    refine bnd (ldI_at R rfl) ?_
    refine ifp (by decide) ?_
    refine bnd (st1_of (o := 1) R (by simp) rfl) rfl
  · refine ⟨h, ?_, by rw [if_neg he]; exact R, Chg.refl _ _⟩
    refine bnd (ldI_at R rfl) ?_
    exact ifn (by simpa using he) rfl
theorem left_spec (k : Nat) (D : CallF) {h : AHeap} {b : Nat} {s : ByteArray} {e : Int} (R : Rdr h b s e) : num_Reader_Left k D (some ⟨b, 0, none⟩) h = some ((s.size : Int), h) := by
  simp only [num_Reader_Left, Option.bind_some]
  exact bnd (ldS_at R rfl) rfl
theorem err_spec (k : Nat) (D : CallF) {h : AHeap} {b : Nat} {s : ByteArray} {e : Int} (R : Rdr h b s e) : num_Reader_Err k D (some ⟨b, 0, none⟩) h = some (e, h) := by
  simp only [num_Reader_Err, Option.bind_some]
  exact bnd (ldI_at R rfl) rfl
def rdE (s : ByteArray) (e n : Int) : Int := if e ≠ 0 then e else if n < 0 then 1 else if n > s.size then 10 else 0
def rdOut (s : ByteArray) (e n : Int) : ByteArray := if rdE s e n = 0 then ⟨⟨(bl s).take n.toNat⟩⟩ else ⟨#[]⟩
def rdRest (s : ByteArray) (e n : Int) : ByteArray := if rdE s e n = 0 then ⟨⟨(bl s).drop n.toNat⟩⟩ else s
theorem rbytes_spec (k : Nat) (D : CallF) {h : AHeap} {b : Nat} {s : ByteArray} {e : Int} (R : Rdr h b s e) (n : Int) :
    ∃ h', num_Reader_Bytes k D (some ⟨b, 0, none⟩) n h = some (rdOut s e n, h') ∧ Rdr h' b (rdRest s e n) (rdE s e n) ∧ Chg (OnlyB b) h h' := by
  simp only [num_Reader_Bytes]
  have go : ∀ (h1 : AHeap) (e1 : Int), Rdr h1 b s e1 → Chg (OnlyB b) h h1 → e1 = rdE s e n →
      ∃ h', ((some (⟨b, 0, none⟩ : Addr)).bind fun p5 => (ldI .i64 (⟨p5.block, p5.off + 1, none⟩ : Addr) h1).bind fun x6 =>
        (if (x6 != 0) = true then some ((⟨#[]⟩ : ByteArray), h1)
        else ((some (⟨b, 0, none⟩ : Addr)).bind fun p7 => (ldS (⟨p7.block, p7.off + 0, none⟩ : Addr) h1).bind fun x8 => (Gx.subS x8 none (some n)).bind fun s9 =>
          (some (⟨b, 0, none⟩ : Addr)).bind fun p10 => (ldS (⟨p10.block, p10.off + 0, none⟩ : Addr) h1).bind fun x11 => (Gx.subS x11 (some n) none).bind fun s12 =>
          (some (⟨b, 0, none⟩ : Addr)).bind fun p13 => (st1 (⟨p13.block, p13.off + 0, none⟩ : Addr) (.string s12) h1).bind fun h14 => some (s9, h14)))) = some (rdOut s e n, h') ∧ Rdr h' b (rdRest s e n) (rdE s e n) ∧ Chg (OnlyB b) h h' := by
    intro h1 e1 R1 c1 he
    by_cases h0 : rdE s e n = 0
    · rw [h0] at he; subst he
      have hn : 0 ≤ n ∧ n ≤ s.size := by
        unfold rdE at h0
        split at h0
        · rename_i q; exact absurd h0 q
        · split at h0
          · cases h0
          · split at h0
            · cases h0
            · omega
      obtain ⟨m, rfl⟩ : ∃ m : Nat, n = m := ⟨n.toNat, by omega⟩
      refine ⟨h1.set b (.cells [.string ⟨⟨(bl s).drop m⟩⟩, .int .i64 0] 108 true 0), ?_, ?_, c1.trans (Chg.set (.inr rfl))⟩
      · refine bnd rfl ?_
        refine bnd (ldI_at R1 rfl) ?_
        refine ifn (by decide) ?_
        refine bnd rfl ?_
        refine bnd (ldS_at R1 rfl) ?_
        refine bnd (subS_of (j := m) (i := 0) rfl rfl (by omega) (by omega)) ?_
        refine bnd rfl ?_
        refine bnd (ldS_at R1 rfl) ?_
        refine bnd (subS_of (j := s.size) (i := m) rfl rfl (by omega) (by omega)) ?_
        refine bnd rfl ?_
        refine bnd (st1_of (o := 0) R1 (by simp) rfl) ?_
        unfold rdOut
        have e0 : (bl s).take s.size = bl s := List.take_of_length_le (by rw [bl_length]; omega)
        rw [if_pos h0, List.drop_zero, Int.toNat_natCast, e0]
        rfl
      · unfold rdRest
        rw [if_pos h0, h0, Int.toNat_natCast]
        simp [Rdr]
    · refine ⟨h1, ?_, ?_, c1⟩
      · refine bnd rfl ?_
        refine bnd (ldI_at R1 rfl) ?_
        refine ifp (by rw [he]; simpa using h0) ?_
        unfold rdOut; rw [if_neg h0]
      · unfold rdRest; rw [if_neg h0, ← he]; exact R1
  by_cases hn : n < 0
  · obtain ⟨h1, r1, R1, c1⟩ := fail_spec k D R 1
    obtain ⟨h', g1, g2, g3⟩ := go h1 _ R1 c1 (by unfold rdE; by_cases he : e = 0 <;> simp [he, hn])
    refine ⟨h', ?_, g2, g3⟩
    refine jn ?_
    refine ifp (decide_eq_true hn) ?_
    exact bnd r1 g1
  · by_cases hl : n > s.size
    · obtain ⟨h1, r1, R1, c1⟩ := fail_spec k D R 10
      obtain ⟨h', g1, g2, g3⟩ := go h1 _ R1 c1 (by unfold rdE; by_cases he : e = 0 <;> simp [he, hn, hl])
      refine ⟨h', ?_, g2, g3⟩
      refine jn ?_
      refine ifn (by simpa using hn) ?_
      refine bnd (left_spec k D R) ?_
      refine ifp (decide_eq_true hl) ?_
      exact bnd r1 g1
    · obtain ⟨h', g1, g2, g3⟩ := go h _ R (Chg.refl _ _) (by unfold rdE; by_cases he : e = 0 <;> simp [he, hn, hl])
      refine ⟨h', ?_, g2, g3⟩
      refine jn ?_
      refine ifn (by simpa using hn) ?_
      refine bnd (left_spec k D R) ?_
      refine ifn (by simpa using hl) ?_
      exact g1
abbrev rxT := Int → Slc → Int → Int → AHeap → Option ((Int) × AHeap)
theorem rfixed_l0 (K : Nat) (D : CallF) (j) (bot : rxT) {h : AHeap} {b cap : Nat} {sp : Option Nat} {l : List UInt8} {e : TypeId} {r : Bool} {fz : Nat} (hb : h.get b = some (.cells (l.map encB) e r fz)) (hl : l.length ≤ 7) : ∀ (m i a : Nat), i + m = l.length → a < 256 ^ i →
    iterK bot (m + 1) (num_Reader_Fixed_l0b K D j) (a : Int) (⟨some ⟨b, 0, sp⟩, l.length, cap⟩ : Slc) (l.length : Int) (i : Int) h = j ((numL a (l.drop i) : Nat) : Int) h
  | 0, i, a, hi, ha => by
    obtain rfl : i = l.length := by omega
    rw [iterK_s]; simp only [num_Reader_Fixed_l0b]
    refine ifn (by simp) ?_
    rw [List.drop_length]; rfl
  | m + 1, i, a, hi, ha => by
    rw [iterK_s]; simp only [num_Reader_Fixed_l0b]
    refine ifp (by simp; omega) ?_
    obtain ⟨x, hx⟩ := isome (l := l) (i := i) (by omega)
    refine bnd (idxL_out (by omega)) ?_
    refine bnd (rdB_out hb hx) ?_
    have hx' : x.toNat < 256 := UInt8.toNat_lt x
    have hbd := num_step ha (show i < l.length by omega) hl
    have e1 : Go.bits .or .i64 (IntKind.wrap .i64 ((a : Int) * 256)) (IntKind.wrap .i64 (x.toNat : Int)) = ((a * 256 + x.toNat : Nat) : Int) := by
      rw [w64 ((a : Int) * 256) (by omega), w64 (x.toNat : Int) (by omega)]
      have := bits_join .i64 63 (by decide) wraps_i64 8 ((a : Int) * 256) (x.toNat : Int) (by omega) (by omega) (by omega) (by omega) (by omega) (by omega)
      rw [this]; omega
    rw [e1, w1 (by omega), dropc hx]
    exact rfixed_l0 K D j bot hb hl m (i + 1) _ (by omega) (num_step2 ha)
theorem rfixed_spec {kf : Nat} (hkf : 9 ≤ kf) (D : CallF) {h : AHeap} {b : Nat} {s : ByteArray} {e : Int} (R : Rdr h b s e) (n : Nat) (h1 : 1 ≤ n) (h7 : n ≤ 7) (hbl : b < h.next) :
    ∃ h', num_Reader_Fixed kf D (some ⟨b, 0, none⟩) (n : Int) h = some (((numL 0 (bl (rdOut s e n)) : Nat) : Int), h') ∧ Rdr h' b (rdRest s e n) (rdE s e n) ∧ Chg (OnlyB b) h h' := by
  simp only [num_Reader_Fixed]
  obtain ⟨g, r1, R1, c1⟩ := rbytes_spec kf D R (n : Int)
  have hg : b < g.next := Nat.lt_of_lt_of_le hbl c1.nx
  have kn : Keeps g (g.new (.cells (bytesL (rdOut s e n)) 5 true 0)) := Keeps.new _ _
  refine ⟨g.new (.cells (bytesL (rdOut s e n)) 5 true 0), ?_, R1.chg kn (fun f => f) hg, c1.trans (Chg.keeps kn)⟩
  refine jn ?_
  refine jn ?_
  refine ifn (by simp <;> omega) ?_
  refine ifn (by simp <;> omega) ?_
  refine jn ?_
  refine bnd r1 ?_
  unfold num_Reader_Fixed_l0
  have hlen : (bl (rdOut s e n)).length ≤ 7 := by
    unfold rdOut
    split
    · rw [bl_mk]; simp; omega
    · exact Nat.zero_le _
  have hsz := bl_length (rdOut s e n)
  obtain ⟨bot', e2⟩ := iterK_of (α := rxT) (fun _ _ _ _ _ => none) (num_Reader_Fixed_l0b kf D fun (n5 : Int) (h6 : AHeap) => some (n5, h6)) (show (rdOut s e n).size + 1 ≤ kf by omega)
  rw [e2]
  have := rfixed_l0 kf D (fun (n5 : Int) (h6 : AHeap) => some (n5, h6)) bot' (h := g.new (.cells (bytesL (rdOut s e n)) 5 true 0)) (b := g.next) (cap := (rdOut s e n).size) (sp := some 2) (l := bl (rdOut s e n)) (e := 5) (r := true) (fz := 0) (by simp [bytesL_bl]) hlen (rdOut s e n).size 0 0 (by omega) (by decide)
  rw [hsz] at this
  refine this.trans ?_
  rw [List.drop_zero]
end Gb
namespace Gb
open Go Gx Go.Proofs
abbrev Sh := Int × Int × Int × Int × ByteArray × ByteArray
def shC (x : Sh) : List Value := [.int .i64 x.1, .int .i64 x.2.1, .int .i64 x.2.2.1, .int .i64 x.2.2.2.1, .string x.2.2.2.2.1, .string x.2.2.2.2.2]
def chkA (x : Sh) : Int :=
  if x.1 < 1 then 60 else if x.2.1 < 0 then 60 else if x.1 > 255 then 60 else if x.2.1 > 255 - x.1 then 60 else if x.2.2.1 < 0 then 60 else if x.2.2.1 ≥ x.1 + x.2.1 then 60 else
  if x.2.2.2.1 < 0 then 60 else if x.2.2.2.1 > 65536 then 60 else if (x.2.2.2.2.1.size : Int) ≠ 32 then 60 else if (x.2.2.2.2.2.size : Int) ≠ Int.tdiv (x.2.2.2.1 + x.1 - 1) x.1 then 60 else 0
theorem sh_get (x : Sh) (h : AHeap) (t : TypeId) : (h.new (.cells (shC x) t true 0)).get h.next = some (.cells (shC x) t true 0) := by simp
theorem sh_dec (x : Sh) : decC [.i .i64, .i .i64, .i .i64, .i .i64, .s, .s] (shC x) = some x := rfl
theorem sh_ldA {x : Sh} {h : AHeap} {b : Nat} {sp : Option Nat} {t : TypeId} (hb : h.get b = some (.cells (shC x) t true 0)) : ldA 6 ⟨b, 0, sp⟩ h = some (shC x) := ldA_at hb rfl
theorem check_spec (k : Nat) (D : CallF) (x : Sh) (h : AHeap) : shard_Check k D x h = some (chkA x, h.new (.cells (shC x) 23 true 0)) := by
  have hb := sh_get x h 23
  generalize hh : h.new (.cells (shC x) 23 true 0) = h1 at hb
  have l0 : ldI .i64 ⟨h.next, 0, none⟩ h1 = some x.1 := ldI_at hb rfl
  have l1 : ldI .i64 ⟨h.next, 1, none⟩ h1 = some x.2.1 := ldI_at hb rfl
  have l2 : ldI .i64 ⟨h.next, 2, none⟩ h1 = some x.2.2.1 := ldI_at hb rfl
  have l3 : ldI .i64 ⟨h.next, 3, none⟩ h1 = some x.2.2.2.1 := ldI_at hb rfl
  have l4 : ldS ⟨h.next, 4, none⟩ h1 = some x.2.2.2.2.1 := ldS_at hb rfl
  have l5 : ldS ⟨h.next, 5, none⟩ h1 = some x.2.2.2.2.2 := ldS_at hb rfl
  have hh' : h.new (.cells [.int .i64 x.1, .int .i64 x.2.1, .int .i64 x.2.2.1, .int .i64 x.2.2.2.1, .string x.2.2.2.2.1, .string x.2.2.2.2.2] 23 true 0) = h1 := hh
  simp only [shard_Check, joinK, hh', Option.bind_some, l0, l1, l2, l3, l4, l5, Nat.zero_add, sha_IsId]
  unfold chkA
  by_cases c1 : x.1 < 1
  · simp [c1]
  by_cases c2 : x.2.1 < 0
  · simp [c1, c2]
  by_cases c3 : x.1 > 255
  · simp [c1, c2, c3]
  rw [w64 (255 - x.1) (by omega)]
  by_cases c4 : x.2.1 > 255 - x.1
  · simp [c1, c2, c3, c4]
  by_cases c5 : x.2.2.1 < 0
  · simp [c1, c2, c3, c4, c5]
  rw [w64 (x.1 + x.2.1) (by omega)]
  by_cases c6 : x.2.2.1 ≥ x.1 + x.2.1
  · simp [c1, c2, c3, c4, c5, c6]
  by_cases c7 : x.2.2.2.1 < 0
  · simp [c1, c2, c3, c4, c5, c6, c7]
  by_cases c8 : x.2.2.2.1 > 65536
  · simp [c1, c2, c3, c4, c5, c6, c7, c8]
  by_cases c9 : (x.2.2.2.2.1.size : Int) = 32
  · have q1 : 0 ≤ Int.tdiv (x.2.2.2.1 + x.1 - 1) x.1 := Int.tdiv_nonneg (by omega) (by omega)
    have q2 : Int.tdiv (x.2.2.2.1 + x.1 - 1) x.1 ≤ x.2.2.2.1 + x.1 - 1 := by
      rw [Int.tdiv_eq_ediv_of_nonneg (by omega)]; exact Int.ediv_le_self _ (by omega)
    rw [w64 (x.2.2.2.1 + x.1) (by omega), w64 (x.2.2.2.1 + x.1 - 1) (by omega), w64 _ (by omega)]
    have c0 : x.1 ≠ 0 := by omega
    by_cases c10 : (x.2.2.2.2.2.size : Int) = Int.tdiv (x.2.2.2.1 + x.1 - 1) x.1
    · simp [c1, c2, c3, c4, c5, c6, c7, c8, c9, c10, c0]
    · simp [c1, c2, c3, c4, c5, c6, c7, c8, c9, c10, c0]
  · simp [c1, c2, c3, c4, c5, c6, c7, c8, c9]
theorem rcheck_spec (k : Nat) (D : CallF) (x : Sh) (h : AHeap) : ref06_Check k D x h = some (chkA x, h.new (.cells (shC x) 29 true 0)) := by
  have hb := sh_get x h 29
  generalize hh : h.new (.cells (shC x) 29 true 0) = h1 at hb
  have l0 : ldI .i64 ⟨h.next, 0, none⟩ h1 = some x.1 := ldI_at hb rfl
  have l1 : ldI .i64 ⟨h.next, 1, none⟩ h1 = some x.2.1 := ldI_at hb rfl
  have l2 : ldI .i64 ⟨h.next, 2, none⟩ h1 = some x.2.2.1 := ldI_at hb rfl
  have l3 : ldI .i64 ⟨h.next, 3, none⟩ h1 = some x.2.2.2.1 := ldI_at hb rfl
  have l4 : ldS ⟨h.next, 4, none⟩ h1 = some x.2.2.2.2.1 := ldS_at hb rfl
  have l5 : ldS ⟨h.next, 5, none⟩ h1 = some x.2.2.2.2.2 := ldS_at hb rfl
  have hh' : h.new (.cells [.int .i64 x.1, .int .i64 x.2.1, .int .i64 x.2.2.1, .int .i64 x.2.2.2.1, .string x.2.2.2.2.1, .string x.2.2.2.2.2] 29 true 0) = h1 := hh
  simp only [ref06_Check, joinK, hh', Option.bind_some, l0, l1, l2, l3, l4, Nat.zero_add, ref05_Size]
  unfold chkA
  by_cases c1 : x.1 < 1
  · simp [c1]
  by_cases c2 : x.2.1 < 0
  · simp [c1, c2]
  by_cases c3 : x.1 > 255
  · simp [c1, c2, c3]
  rw [w64 (255 - x.1) (by omega)]
  by_cases c4 : x.2.1 > 255 - x.1
  · simp [c1, c2, c3, c4]
  by_cases c5 : x.2.2.1 < 0
  · simp [c1, c2, c3, c4, c5]
  rw [w64 (x.1 + x.2.1) (by omega)]
  by_cases c6 : x.2.2.1 ≥ x.1 + x.2.1
  · simp [c1, c2, c3, c4, c5, c6]
  by_cases c7 : x.2.2.2.1 < 0
  · simp [c1, c2, c3, c4, c5, c6, c7]
  by_cases c8 : x.2.2.2.1 > 65536
  · simp [c1, c2, c3, c4, c5, c6, c7, c8]
  by_cases c9 : (x.2.2.2.2.1.size : Int) = 32
  · have q1 : 0 ≤ Int.tdiv (x.2.2.2.1 + x.1 - 1) x.1 := Int.tdiv_nonneg (by omega) (by omega)
    have q2 : Int.tdiv (x.2.2.2.1 + x.1 - 1) x.1 ≤ x.2.2.2.1 + x.1 - 1 := by
      rw [Int.tdiv_eq_ediv_of_nonneg (by omega)]; exact Int.ediv_le_self _ (by omega)
    rw [w64 (x.2.2.2.1 + x.1) (by omega), w64 (x.2.2.2.1 + x.1 - 1) (by omega), w64 _ (by omega)]
    have c0 : x.1 ≠ 0 := by omega
    have hg : SameW [h1] (fun H18 => (ldS ⟨h.next, 5, none⟩ H18).bind fun y17 => some (.string y17)) (.string x.2.2.2.2.2) := by
      intro H hH; simp only [List.mem_singleton] at hH; subst hH; simp only [l5, Option.bind_some]
    by_cases c10 : (x.2.2.2.2.2.size : Int) = Int.tdiv (x.2.2.2.1 + x.1 - 1) x.1
    · simp [c1, c2, c3, c4, c5, c6, c7, c8, c9, c10, c0, l5, guardP_true hg]
    · simp [c1, c2, c3, c4, c5, c6, c7, c8, c9, c10, c0, l5, guardP_true hg]
  · simp [c1, c2, c3, c4, c5, c6, c7, c8, c9]
theorem chk_facts {x : Sh} (h : chkA x = 0) : (1 ≤ x.1 ∧ x.1 ≤ 255) ∧ (0 ≤ x.2.1 ∧ x.2.1 ≤ 255 - x.1) ∧ (0 ≤ x.2.2.1 ∧ x.2.2.1 < x.1 + x.2.1) ∧ (0 ≤ x.2.2.2.1 ∧ x.2.2.2.1 ≤ 65536) ∧ x.2.2.2.2.1.size = 32 ∧ (x.2.2.2.2.2.size : Int) = Int.tdiv (x.2.2.2.1 + x.1 - 1) x.1 := by
  unfold chkA at h
  by_cases c1 : x.1 < 1
  · simp [c1] at h
  by_cases c2 : x.2.1 < 0
  · simp [c1, c2] at h
  by_cases c3 : x.1 > 255
  · simp [c1, c2, c3] at h
  by_cases c4 : x.2.1 > 255 - x.1
  · simp [c1, c2, c3, c4] at h
  by_cases c5 : x.2.2.1 < 0
  · simp [c1, c2, c3, c4, c5] at h
  by_cases c6 : x.2.2.1 ≥ x.1 + x.2.1
  · simp [c1, c2, c3, c4, c5, c6] at h
  by_cases c7 : x.2.2.2.1 < 0
  · simp [c1, c2, c3, c4, c5, c6, c7] at h
  by_cases c8 : x.2.2.2.1 > 65536
  · simp [c1, c2, c3, c4, c5, c6, c7, c8] at h
  by_cases c9 : (x.2.2.2.2.1.size : Int) = 32
  · by_cases c10 : (x.2.2.2.2.2.size : Int) = Int.tdiv (x.2.2.2.1 + x.1 - 1) x.1
    · refine ⟨by omega, by omega, by omega, by omega, by omega, c10⟩
    · simp [c1, c2, c3, c4, c5, c6, c7, c8, c9, c10] at h
  · simp [c1, c2, c3, c4, c5, c6, c7, c8, c9] at h
theorem chk_size {x : Sh} (h : chkA x = 0) : x.2.2.2.2.2.size ≤ 66000 := by
  obtain ⟨c1, c2, c3, c4, c5, c6⟩ := chk_facts h
  have q2 : Int.tdiv (x.2.2.2.1 + x.1 - 1) x.1 ≤ x.2.2.2.1 + x.1 - 1 := by
    rw [Int.tdiv_eq_ediv_of_nonneg (by omega)]; exact Int.ediv_le_self _ (by omega)
  omega
def headL (x : Sh) : List UInt8 := [71, 82, 84, 1] ++ [UInt8.ofNat x.1.toNat, UInt8.ofNat x.2.1.toNat, UInt8.ofNat x.2.2.1.toNat] ++ fixL x.2.2.2.1.toNat 4 ++ bl x.2.2.2.2.1 ++ bl x.2.2.2.2.2
def sumL (n : Nat) : List UInt8 := [UInt8.ofNat n, UInt8.ofNat (n / 256), UInt8.ofNat (n / 65536), UInt8.ofNat (n / 16777216)]
def textL (x : Sh) : List UInt8 := headL x ++ sumL (crc (headL x))
theorem headL_length (x : Sh) : (headL x).length = 11 + x.2.2.2.2.1.size + x.2.2.2.2.2.size := by
  simp only [headL, List.length_append, fixL_length, bl_length, List.length_cons, List.length_nil]
theorem ba_app (a b : List UInt8) : (⟨⟨a⟩⟩ : ByteArray) ++ (⟨⟨b⟩⟩ : ByteArray) = ⟨⟨a ++ b⟩⟩ := by
  apply bl_inj
  simp [bl]
theorem ba_app' (a : List UInt8) (s : ByteArray) : (⟨⟨a⟩⟩ : ByteArray) ++ s = ⟨⟨a ++ bl s⟩⟩ := ba_app a (bl s)
theorem wu8i {n : Int} (h : 0 ≤ n) : IntKind.wrap .u8 n = (((UInt8.ofNat n.toNat).toNat : Nat) : Int) := by
  rw [Go.IntKind.wrap_u8, toNat_ofNat]; omega
theorem sum_cells (n : Nat) (hn : n < 4294967296) : [Value.int .u8 (IntKind.wrap .u8 (n : Int)), .int .u8 (IntKind.wrap .u8 (Int.fdiv (n : Int) 256)), .int .u8 (IntKind.wrap .u8 (Int.fdiv (n : Int) 65536)), .int .u8 (IntKind.wrap .u8 (Int.fdiv (n : Int) 16777216))] = (sumL n).map encB := by
  have f : ∀ d : Nat, Int.fdiv (n : Int) (d : Int) = ((n / d : Nat) : Int) := fun d => by rw [Int.fdiv_eq_ediv_of_nonneg _ (by omega)]; simp
  have f1 : Int.fdiv (n : Int) 256 = ((n / 256 : Nat) : Int) := f 256
  have f2 : Int.fdiv (n : Int) 65536 = ((n / 65536 : Nat) : Int) := f 65536
  have f3 : Int.fdiv (n : Int) 16777216 = ((n / 16777216 : Nat) : Int) := f 16777216
  have g1 := wu8i (n := (n : Int)) (by omega)
  have g2 := wu8i (n := ((n / 256 : Nat) : Int)) (by omega)
  have g3 := wu8i (n := ((n / 65536 : Nat) : Int)) (by omega)
  have g4 := wu8i (n := ((n / 16777216 : Nat) : Int)) (by omega)
  rw [Int.toNat_natCast] at g1 g2 g3 g4
  simp only [sumL, List.map_cons, List.map_nil, encB, f1, f2, f3, g1, g2, g3, g4]
theorem text_spec {k : Nat} (hk : 70000 ≤ k) (D : CallF) (x : Sh) (h : AHeap) (hc : chkA x = 0) : ∃ h', shard_text k D x h = some ((⟨⟨textL x⟩⟩ : ByteArray), h') ∧ Keeps h h' := by
  obtain ⟨c1, c2, c3, c4, c5, c6⟩ := chk_facts hc
  have c7 := chk_size hc
  simp only [shard_text]
  have hb := sh_get x h 23
  have kn : Keeps h (h.new (.cells (shC x) 23 true 0)) := Keeps.new _ _
  obtain ⟨n, hn⟩ : ∃ n : Nat, x.2.2.2.1 = n := ⟨x.2.2.2.1.toNat, by omega⟩
  obtain ⟨g, r1, kg⟩ := nfix_spec (kf := k) (by omega) D n 4 (h.new (.cells (shC x) 23 true 0)) (by decide) (by decide) (by omega)
  have hpow : n < 256 ^ 4 := by have : (256 : Nat) ^ 4 = 4294967296 := by decide
                                omega
  rw [if_pos hpow] at r1
  have r1' : num_Fixed k D x.2.2.2.1 4 (h.new (.cells (shC x) 23 true 0)) = some (((⟨⟨fixL n 4⟩⟩ : ByteArray), 0), g) := by rw [hn]; exact r1
  have hbg : g.get h.next = some (.cells (shC x) 23 true 0) := (kg.oth h.next (by simp) (fun f => f)).trans hb
  have hlt : h.next < g.next := Nat.lt_of_lt_of_le (by simp) kg.nx
  have e3 : [Value.int .u8 (IntKind.wrap .u8 x.1), .int .u8 (IntKind.wrap .u8 x.2.1), .int .u8 (IntKind.wrap .u8 x.2.2.1)] = [UInt8.ofNat x.1.toNat, UInt8.ofNat x.2.1.toNat, UInt8.ofNat x.2.2.1.toNat].map encB := by
    simp only [List.map_cons, List.map_nil, encB, wu8i (show 0 ≤ x.1 by omega), wu8i (show 0 ≤ x.2.1 by omega), wu8i (show 0 ≤ x.2.2.1 by omega)]
  let g2 := g.new (.cells ([UInt8.ofNat x.1.toNat, UInt8.ofNat x.2.1.toNat, UInt8.ofNat x.2.2.1.toNat].map encB) 5 true 0)
  have kg2 : Keeps g g2 := Keeps.new _ _
  have hb2 : g2.get h.next = some (.cells (shC x) 23 true 0) := (kg2.oth h.next hlt (fun f => f)).trans hbg
  have hbg2 : g2.get g.next = some (.cells ([UInt8.ofNat x.1.toNat, UInt8.ofNat x.2.1.toNat, UInt8.ofNat x.2.2.1.toNat].map encB) 5 true 0) := by simp [g2]
  have hm : (⟨#[71, 82, 84, 1]⟩ : ByteArray) = ⟨⟨[71, 82, 84, 1]⟩⟩ := rfl
  let H := (⟨⟨headL x⟩⟩ : ByteArray)
  have hHs : H.size = 11 + x.2.2.2.2.1.size + x.2.2.2.2.2.size := by show (⟨⟨headL x⟩⟩ : ByteArray).size = _; rw [size_mk, headL_length]
  have rc := crc_spec (k := k) (by omega) D H g2 (by omega) (by omega)
  have hbH : bl H = headL x := rfl
  rw [hbH] at rc
  let g3 := g2.new (.cells (bytesL H) 5 true 0)
  let g4 := g3.new (.cells ((sumL (crc (headL x))).map encB) 5 true 0)
  have hb4 : g4.get g3.next = some (.cells ((sumL (crc (headL x))).map encB) 5 true 0) := by simp [g4]
  refine ⟨g4, ?_, kn.trans (kg.trans (kg2.trans ((Keeps.new _ _).trans (Keeps.new _ _))))⟩
  refine bnd (ldI_at hb rfl) ?_
  refine bnd r1' ?_
  refine bnd (ldI_at hbg rfl) ?_
  refine bnd (ldI_at hbg rfl) ?_
  refine bnd (ldI_at hbg rfl) ?_
  rw [e3]
  refine bnd (bytesOf_out (cap := 3) (sp := some 0) hbg2) ?_
  rw [hm, ba_app, ba_app]
  refine ifp (by simp only [size_mk, List.length_cons, List.length_nil]; decide) ?_
  refine ifp (by simp only [size_mk, List.length_append, List.length_cons, List.length_nil, fixL_length]; decide) ?_
  refine bnd (ldS_at hb2 rfl) ?_
  rw [ba_app']
  refine ifp (by simp only [size_mk, List.length_append, List.length_cons, List.length_nil, fixL_length, c5]; decide) ?_
  refine bnd (ldS_at hb2 rfl) ?_
  rw [ba_app']
  refine ifp (by simp only [size_mk, List.length_append, List.length_cons, List.length_nil, fixL_length, c5, bl_length]; omega) ?_
  have eH : (⟨⟨[71, 82, 84, 1] ++ [UInt8.ofNat x.1.toNat, UInt8.ofNat x.2.1.toNat, UInt8.ofNat x.2.2.1.toNat] ++ fixL n 4 ++ bl x.2.2.2.2.1 ++ bl x.2.2.2.2.2⟩⟩ : ByteArray) = H := by
    show _ = (⟨⟨headL x⟩⟩ : ByteArray)
    unfold headL; rw [hn, Int.toNat_natCast]
  rw [eH]
  refine bnd rc ?_
  rw [sum_cells _ (crc_lt _)]
  refine bnd (bytesOf_out (cap := 4) (sp := some 0) hb4) ?_
  refine ifp (by simp only [size_mk, sumL, List.length_cons, List.length_nil]; omega) ?_
  show some ((⟨⟨headL x⟩⟩ : ByteArray) ++ (⟨⟨sumL (crc (headL x))⟩⟩ : ByteArray), g4) = _
  rw [ba_app]; rfl
end Gb
namespace Gb
open Go Gx Go.Proofs
theorem sw1 {H1 : AHeap} {F : AHeap → Option Value} {v : Value} (h : F H1 = some v) : SameW [H1] F v := by
  intro H hH; simp only [List.mem_singleton] at hH; subst hH; exact h
theorem sw2 {H1 H2 : AHeap} {F : AHeap → Option Value} {v : Value} (h : F H1 = some v) (h' : F H2 = some v) : SameW [H1, H2] F v := by
  intro H hH
  simp only [List.mem_cons, List.not_mem_nil, or_false] at hH
  rcases hH with rfl | rfl
  · exact h
  · exact h'
theorem stL_at {h : AHeap} {b n : Nat} {sp : Option Nat} {c cs : List Value} {e : TypeId} (hb : h.get b = some (.cells c e true 0)) (hc : c.length = n) (hl : cs.length = n) (ho : allOne cs = true) (hn : n ≠ 0) :
    stL n ⟨b, 0, sp⟩ cs h = some (h.set b (.cells cs e true 0)) := by
  unfold stL
  rw [hl, Nat.beq_refl, cond_true]
  cases cs with
  | nil => simp at hl; omega
  | cons v t =>
    simp only [AHeap.wrL, hb]
    rw [if_pos ⟨by omega, by omega, ho⟩]
    simp only [splice, List.take_zero, List.nil_append, Nat.zero_add]
    rw [List.drop_eq_nil_of_le (by omega), List.append_nil]
theorem shC_one (x : Sh) : allOne (shC x) = true := rfl
theorem rtext_spec {k : Nat} (hk : 70000 ≤ k) (D : CallF) (x : Sh) (h : AHeap) (hc : chkA x = 0) : ∃ h', ref06_Text k D x h = some ((⟨⟨textL x⟩⟩ : ByteArray), h') ∧ Keeps h h' := by
  obtain ⟨c1, c2, c3, c4, c5, c6⟩ := chk_facts hc
  have c7 := chk_size hc
  simp only [ref06_Text]
  have kn : Keeps h (h.new (.cells (shC x) 29 true 0)) := Keeps.new _ _
  let h2 := (h.new (.cells (shC x) 29 true 0)).resv 1
  have kr : Keeps h h2 := ⟨by show h.next ≤ h.next + 1 + 1; omega, fun y hy _ => kn.oth y hy (fun f => f)⟩
  have hb : h2.get h.next = some (.cells (shC x) 29 true 0) := sh_get x h 29
  obtain ⟨n, hn⟩ : ∃ n : Nat, x.2.2.2.1 = n := ⟨x.2.2.2.1.toNat, by omega⟩
  have hpow : n < 256 ^ 4 := by have : (256 : Nat) ^ 4 = 4294967296 := by decide
                                omega
  obtain ⟨g, r1, kg⟩ := must_spec (kf := k) (by omega) D n 4 h2 (by decide) (by decide) (by omega) hpow
  have r1' : ref01_Must k D x.2.2.2.1 4 h2 = some ((⟨⟨fixL n 4⟩⟩ : ByteArray), g) := by rw [hn]; exact r1
  have hn2 : h2.next = h.next + 1 + 1 := rfl
  have hbg : g.get h.next = some (.cells (shC x) 29 true 0) := (kg.oth h.next (by omega) (fun f => f)).trans hb
  have hlt : h.next + 1 < g.next := Nat.lt_of_lt_of_le (by omega) kg.nx
  have e3 : [Value.int .u8 (IntKind.wrap .u8 x.1), .int .u8 (IntKind.wrap .u8 x.2.1), .int .u8 (IntKind.wrap .u8 x.2.2.1)] = [UInt8.ofNat x.1.toNat, UInt8.ofNat x.2.1.toNat, UInt8.ofNat x.2.2.1.toNat].map encB := by
    simp only [List.map_cons, List.map_nil, encB, wu8i (show 0 ≤ x.1 by omega), wu8i (show 0 ≤ x.2.1 by omega), wu8i (show 0 ≤ x.2.2.1 by omega)]
  let g2 := g.set (h.next + 1) (.cells ([UInt8.ofNat x.1.toNat, UInt8.ofNat x.2.1.toNat, UInt8.ofNat x.2.2.1.toNat].map encB) 5 true 0)
  have kg2 : Chg (OnlyB (h.next + 1)) g g2 := Chg.set (.inr rfl)
  have hb2 : g2.get h.next = some (.cells (shC x) 29 true 0) := (kg2.oth h.next (by omega) (fun f => by have : h.next = h.next + 1 := f; omega)).trans hbg
  have hbg2 : g2.get (h.next + 1) = some (.cells ([UInt8.ofNat x.1.toNat, UInt8.ofNat x.2.1.toNat, UInt8.ofNat x.2.2.1.toNat].map encB) 5 true 0) := by simp [g2]
  have hm : (⟨#[71, 82, 84, 1]⟩ : ByteArray) = ⟨⟨[71, 82, 84, 1]⟩⟩ := rfl
  let H := (⟨⟨headL x⟩⟩ : ByteArray)
  have hHs : H.size = 11 + x.2.2.2.2.1.size + x.2.2.2.2.2.size := by show (⟨⟨headL x⟩⟩ : ByteArray).size = _; rw [size_mk, headL_length]
  have rc := rcrc_spec (k := k) (by omega) D H g2 (by omega) (by omega)
  have hbH : bl H = headL x := rfl
  rw [hbH] at rc
  let g4 := g2.new (.cells ((sumL (crc (headL x))).map encB) 5 true 0)
  have hb4 : g4.get g2.next = some (.cells ((sumL (crc (headL x))).map encB) 5 true 0) := by simp [g4]
  refine ⟨g4, ?_, (Chg.beh (kr.trans kg) kg2 (fun y hy e => by have : y = h.next + 1 := e; omega)).trans (Keeps.new _ _)⟩
  refine bnd (ldI_at hb rfl) ?_
  refine bnd r1' ?_
  refine bnd (ldI_at hbg rfl) (gp (sw1 (bnd (ldI_at hb rfl) rfl)) ?_)
  refine bnd (ldI_at hbg rfl) (gp (sw1 (bnd (ldI_at hb rfl) rfl)) ?_)
  refine bnd (ldI_at hbg rfl) (gp (sw1 (bnd (ldI_at hb rfl) rfl)) ?_)
  rw [e3]
  refine bnd (bytesOf_out (cap := 3) (sp := some 0) hbg2) ?_
  refine gp ⟨_, hbg2, fun H hH => bnd (bytesOf_out (cap := 3) (sp := some 0) hH) rfl⟩ ?_
  rw [hm, ba_app, ba_app]
  refine ifp (by simp only [size_mk, List.length_cons, List.length_nil]; decide) ?_
  refine ifp (by simp only [size_mk, List.length_append, List.length_cons, List.length_nil, fixL_length]; decide) ?_
  refine bnd (ldS_at hb2 rfl) (gp (sw2 (bnd (ldS_at hbg rfl) rfl) (bnd (ldS_at hb rfl) rfl)) ?_)
  rw [ba_app']
  refine ifp (by simp only [size_mk, List.length_append, List.length_cons, List.length_nil, fixL_length, c5]; decide) ?_
  refine bnd (ldS_at hb2 rfl) (gp (sw2 (bnd (ldS_at hbg rfl) rfl) (bnd (ldS_at hb rfl) rfl)) ?_)
  rw [ba_app']
  refine ifp (by simp only [size_mk, List.length_append, List.length_cons, List.length_nil, fixL_length, c5, bl_length]; omega) ?_
  have eH : (⟨⟨[71, 82, 84, 1] ++ [UInt8.ofNat x.1.toNat, UInt8.ofNat x.2.1.toNat, UInt8.ofNat x.2.2.1.toNat] ++ fixL n 4 ++ bl x.2.2.2.2.1 ++ bl x.2.2.2.2.2⟩⟩ : ByteArray) = H := by
    show _ = (⟨⟨headL x⟩⟩ : ByteArray)
    unfold headL; rw [hn, Int.toNat_natCast]
  rw [eH]
  refine bnd rc ?_
  rw [sum_cells _ (crc_lt _)]
  refine bnd (bytesOf_out (cap := 4) (sp := some 0) hb4) ?_
  refine ifp (by simp only [size_mk, sumL, List.length_cons, List.length_nil]; omega) ?_
  show some ((⟨⟨headL x⟩⟩ : ByteArray) ++ (⟨⟨sumL (crc (headL x))⟩⟩ : ByteArray), g4) = _
  rw [ba_app]; rfl
def encA (x : Sh) : ByteArray × Int := if chkA x = 0 then (⟨⟨textL x⟩⟩, 0) else (⟨#[]⟩, chkA x)
theorem enc_spec {k : Nat} (hk : 70000 ≤ k) (D : CallF) (x : Sh) (h : AHeap) : ∃ h', shard_Encode k D x h = some (encA x, h') ∧ Keeps h h' := by
  simp only [shard_Encode]
  have hb := sh_get x h 23
  have kn : Keeps h (h.new (.cells (shC x) 23 true 0)) := Keeps.new _ _
  let h1 := h.new (.cells (shC x) 23 true 0)
  let h2 := h1.new (.cells (shC x) 23 true 0)
  have rc : shard_Check k D x h1 = some (chkA x, h2) := check_spec k D x h1
  have k2 : Keeps h1 h2 := Keeps.new _ _
  have hb2 : h2.get h.next = some (.cells (shC x) 23 true 0) := (k2.oth h.next (by simp [h1]) (fun f => f)).trans hb
  by_cases hc : chkA x = 0
  · obtain ⟨g, rt, kg⟩ := text_spec hk D x h2 hc
    refine ⟨g, ?_, kn.trans (k2.trans kg)⟩
    refine bnd (sh_ldA hb) (bnd (sh_dec x) (bnd rc ?_))
    refine ifn (by simp [hc]) ?_
    refine bnd (sh_ldA hb2) (bnd (sh_dec x) (bnd rt ?_))
    unfold encA; rw [if_pos hc]
  · refine ⟨h2, ?_, kn.trans k2⟩
    refine bnd (sh_ldA hb) (bnd (sh_dec x) (bnd rc ?_))
    refine ifp (by simp [hc]) ?_
    unfold encA; rw [if_neg hc]
theorem renc_spec {k : Nat} (hk : 70000 ≤ k) (D : CallF) (x : Sh) (h : AHeap) : ∃ h', ref06_Encode k D x h = some (encA x, h') ∧ Keeps h h' := by
  simp only [ref06_Encode]
  have hb := sh_get x h 29
  have kn : Keeps h (h.new (.cells (shC x) 29 true 0)) := Keeps.new _ _
  let h1 := h.new (.cells (shC x) 29 true 0)
  let h2 := h1.new (.cells (shC x) 29 true 0)
  have rc : ref06_Check k D x h1 = some (chkA x, h2) := rcheck_spec k D x h1
  have k2 : Keeps h1 h2 := Keeps.new _ _
  have hb2 : h2.get h.next = some (.cells (shC x) 29 true 0) := (k2.oth h.next (by simp [h1]) (fun f => f)).trans hb
  by_cases hc : chkA x = 0
  · obtain ⟨g, rt, kg⟩ := rtext_spec hk D x h2 hc
    refine ⟨g, ?_, kn.trans (k2.trans kg)⟩
    refine bnd (sh_ldA hb) (bnd (sh_dec x) (bnd rc ?_))
    refine ifn (by simp [hc]) ?_
    refine bnd (sh_ldA hb2) (bnd (sh_dec x) (bnd rt ?_))
    unfold encA; rw [if_pos hc]
  · refine ⟨h2, ?_, kn.trans k2⟩
    refine bnd (sh_ldA hb) (bnd (sh_dec x) (bnd rc ?_))
    refine ifp (by simp [hc]) ?_
    unfold encA; rw [if_neg hc]
def zSh : Sh := (0, 0, 0, 0, ⟨#[]⟩, ⟨#[]⟩)
theorem of_spec (k : Nat) (D : CallF) (x : Sh) (h : AHeap) : ∃ h', law06_of k D x h = some (x, h') ∧ Keeps h h' := by
  simp only [law06_of]
  let h1 := h.new (.cells (shC x) 23 true 0)
  let h2 := h1.new (.cells (shC zSh) 29 true 0)
  have hb : h1.get h.next = some (.cells (shC x) 23 true 0) := sh_get x h 23
  have hb2 : h2.get h.next = some (.cells (shC x) 23 true 0) := ((Keeps.new h1 _).oth h.next (by simp [h1]) (fun f => f)).trans hb
  have hz : h2.get h1.next = some (.cells (shC zSh) 29 true 0) := by simp [h2]
  let h9 := h2.set h1.next (.cells (shC x) 29 true 0)
  have h9g : h9.get h1.next = some (.cells (shC x) 29 true 0) := by simp [h9]
  refine ⟨h9, ?_, Chg.beh ((Keeps.new h _).trans (Keeps.new h1 _)) (Chg.set (S := OnlyB h1.next) (.inr rfl)) (fun y hy e => by have : y = h.next + 1 := e; omega)⟩
  refine bnd (ldI_at hb2 rfl) ?_
  refine bnd (ldI_at hb2 rfl) ?_
  refine bnd (ldI_at hb2 rfl) ?_
  refine bnd (ldI_at hb2 rfl) ?_
  refine bnd (ldS_at hb2 rfl) ?_
  refine bnd (ldS_at hb2 rfl) ?_
  refine bnd (stL_at hz rfl rfl (shC_one x) (by decide)) ?_
  exact bnd (sh_ldA h9g) (bnd (sh_dec x) rfl)
theorem eqSh (x : Sh) : ((x.1 == x.1) && ((x.2.1 == x.2.1) && ((x.2.2.1 == x.2.2.1) && ((x.2.2.2.1 == x.2.2.2.1) && ((x.2.2.2.2.1 == x.2.2.2.2.1) && (x.2.2.2.2.2 == x.2.2.2.2.2)))))) = true := by simp [ba_beq]
theorem same_spec (k : Nat) (D : CallF) (x : Sh) (h : AHeap) : ∃ h', law06_same k D x x h = some (true, h') ∧ Keeps h h' := by
  simp only [law06_same]
  let h1 := h.new (.cells (shC x) 23 true 0)
  let h2 := h1.new (.cells (shC x) 29 true 0)
  have hb : h1.get h.next = some (.cells (shC x) 23 true 0) := sh_get x h 23
  have hb2 : h2.get h.next = some (.cells (shC x) 23 true 0) := ((Keeps.new h1 _).oth h.next (by simp [h1]) (fun f => f)).trans hb
  have hb3 : h2.get h1.next = some (.cells (shC x) 29 true 0) := sh_get x h1 29
  obtain ⟨g, rg, kg⟩ := of_spec k D x h2
  have hb4 : g.get h1.next = some (.cells (shC x) 29 true 0) := (kg.oth _ (by simp [h2]) (fun f => f)).trans hb3
  refine ⟨g, ?_, (Keeps.new h _).trans ((Keeps.new h1 _).trans kg)⟩
  refine bnd (sh_ldA hb2) (bnd (sh_dec x) (bnd rg ?_))
  refine bnd (sh_ldA hb4) (gp (sw1 (bnd (sh_ldA hb3) rfl)) ?_)
  refine bnd (sh_dec x) ?_
  show some (((x.1 == x.1) && ((x.2.1 == x.2.1) && ((x.2.2.1 == x.2.2.1) && ((x.2.2.2.1 == x.2.2.2.1) && ((x.2.2.2.2.1 == x.2.2.2.2.1) && (x.2.2.2.2.2 == x.2.2.2.2.2)))))), g) = _
  rw [eqSh]
end Gb
namespace Gb
open Go Gx Go.Proofs
def prs (s : ByteArray) : Sh :=
  (((numL 0 (((bl s).drop 4).take 1) : Nat) : Int), ((numL 0 (((bl s).drop 5).take 1) : Nat) : Int), ((numL 0 (((bl s).drop 6).take 1) : Nat) : Int), ((numL 0 (((bl s).drop 7).take 4) : Nat) : Int), ⟨⟨((bl s).drop 11).take 32⟩⟩, ⟨⟨((bl s).drop 43).take (s.size - 47)⟩⟩)
def okS (s : ByteArray) : Bool := decide (47 ≤ s.size) && (decide (chkA (prs s) = 0) && decide (textL (prs s) = bl s))
def decS' (s : ByteArray) : Sh × Int := if okS s = true then (prs s, 0) else (zSh, 60)
theorem set_get (h : AHeap) (b : Nat) (B : ABlk) : (h.set b B).get b = some B := by simp
theorem take1 {l : List UInt8} {i : Nat} {x : UInt8} (h : l[i]? = some x) : (l.drop i).take 1 = [x] := by
  rw [dropc h]; rfl
theorem num1 (x : UInt8) : numL 0 [x] = x.toNat := by simp [numL]
theorem rdec_spec {k : Nat} (hk : 70000 ≤ k) (D : CallF) (s : ByteArray) (h : AHeap) (hs : s.size < 9223372036854775807) : ∃ h', ref06_Decode k D s h = some (decS' s, h') ∧ Keeps h h' := by
  simp only [ref06_Decode]
  let h1 := h.new (.cells (shC zSh) 29 true 0)
  have hb : h1.get h.next = some (.cells (shC zSh) 29 true 0) := sh_get zSh h 29
  have kn : Keeps h h1 := Keeps.new _ _
  by_cases h47 : s.size < 47
  · let g := h1.set h.next (.cells (shC zSh) 29 true 0)
    have hg : g.get h.next = some (.cells (shC zSh) 29 true 0) := by simp [g]
    refine ⟨g, ?_, Chg.beh kn (Chg.set (S := OnlyB h.next) (.inr rfl)) (fun y hy e => by have : y = h.next := e; omega)⟩
    refine ifp (by simp; omega) ?_
    refine bnd (stL_at hb rfl rfl (shC_one zSh) (by decide)) ?_
    refine bnd (sh_ldA hg) (bnd (sh_dec zSh) ?_)
    have : okS s = false := by unfold okS; rw [decide_eq_false (by omega)]; rfl
    unfold decS'; rw [this]; rfl
  · have hl := bl_length s
    obtain ⟨x4, e4⟩ := isome (l := bl s) (i := 4) (by omega)
    obtain ⟨x5, e5⟩ := isome (l := bl s) (i := 5) (by omega)
    obtain ⟨x6, e6⟩ := isome (l := bl s) (i := 6) (by omega)
    let h5 := h1.resv 1
    have k5 : Keeps h1 h5 := ⟨Nat.le_succ _, fun _ _ _ => rfl⟩
    let sN : ByteArray := ⟨⟨((bl s).take 11).drop 7⟩⟩
    have eN : bl sN = ((bl s).drop 7).take 4 := by show ((bl s).take 11).drop 7 = _; rw [List.drop_take]
    have rN := rnum_spec (kf := k) (by omega) D sN h5 (by rw [← bl_length, eN]; simp; omega)
    rw [eN] at rN
    have hn5 : h5.next = h.next + 1 + 1 := rfl
    have hbh5 : h5.get h.next = some (.cells (shC zSh) 29 true 0) := hb
    let g := h5.set (h.next + 1) (.cells (shC zSh) 29 true 0)
    have hgz : g.get (h.next + 1) = some (.cells (shC zSh) 29 true 0) := by simp [g]
    let g1 := g.set (h.next + 1) (.cells (shC (prs s)) 29 true 0)
    have hg1 : g1.get (h.next + 1) = some (.cells (shC (prs s)) 29 true 0) := by simp [g1]
    have hg0 : g1.get h.next = some (.cells (shC zSh) 29 true 0) := by simp [g1, g]; exact hbh5
    have kg1 : Keeps h g1 := Chg.beh (kn.trans k5) ((Chg.set (S := OnlyB (h.next + 1)) (.inr rfl)).trans (Chg.set (.inr rfl))) (fun y hy e => by have : y = h.next + 1 := e; omega)
    have hw : IntKind.wrap .i64 ((s.size : Int) - 4) = ((s.size - 4 : Nat) : Int) := by rw [w64 _ (by omega)]; omega
    have ecells : [Value.int .i64 (IntKind.wrap .i64 (x4.toNat : Int)), .int .i64 (IntKind.wrap .i64 (x5.toNat : Int)), .int .i64 (IntKind.wrap .i64 (x6.toNat : Int)), .int .i64 ((numL 0 (((bl s).drop 7).take 4) : Nat) : Int), .string ⟨⟨((bl s).take 43).drop 11⟩⟩, .string ⟨⟨((bl s).take (s.size - 4)).drop 43⟩⟩] = shC (prs s) := by
      have b4 := byte_lt x4; have b5 := byte_lt x5; have b6 := byte_lt x6
      simp only [shC, prs, take1 e4, take1 e5, take1 e6, num1, w64 (x4.toNat : Int) (by omega), w64 (x5.toNat : Int) (by omega), w64 (x6.toNat : Int) (by omega), List.drop_take]
      rw [show s.size - 4 - 43 = s.size - 47 by omega]
    have fin : ∀ (g' : AHeap) (bad : Bool) (r : Sh × Int), Keeps g1 g' → r = (if bad = true then (zSh, 60) else (prs s, 0)) → ∃ h', (if bad = true then
        ((some (⟨h.next, 0, none⟩ : Addr)).bind fun p20 => (stL 6 p20 ([.int .i64 0, .int .i64 0, .int .i64 0, .int .i64 0, .string (⟨#[]⟩ : ByteArray), .string (⟨#[]⟩ : ByteArray)]) g').bind fun h21 =>
          (some (⟨h.next, 0, none⟩ : Addr)).bind fun p22 => (ldA 6 p22 h21).bind fun l23 => (decC [.i .i64, .i .i64, .i .i64, .i .i64, .s, .s] l23).bind fun x24 => some (((x24.1, x24.2.1, x24.2.2.1, x24.2.2.2.1, x24.2.2.2.2.1, x24.2.2.2.2.2), (60 : Int)), h21))
        else ((some (⟨h.next + 1, 0, none⟩ : Addr)).bind fun p25 => (ldA 6 p25 g').bind fun l26 => (decC [.i .i64, .i .i64, .i .i64, .i .i64, .s, .s] l26).bind fun x27 =>
          (some (⟨h.next, 0, none⟩ : Addr)).bind fun p28 => (stL 6 p28 ([.int .i64 x27.1, .int .i64 x27.2.1, .int .i64 x27.2.2.1, .int .i64 x27.2.2.2.1, .string x27.2.2.2.2.1, .string x27.2.2.2.2.2]) g').bind fun h29 =>
          (some (⟨h.next, 0, none⟩ : Addr)).bind fun p30 => (ldA 6 p30 h29).bind fun l31 => (decC [.i .i64, .i .i64, .i .i64, .i .i64, .s, .s] l31).bind fun x32 => some (((x32.1, x32.2.1, x32.2.2.1, x32.2.2.2.1, x32.2.2.2.2.1, x32.2.2.2.2.2), (0 : Int)), h29))) = some (r, h') ∧ Keeps h h' := by
      intro g' bad r kk hr
      have hn1 : h.next + 1 < g1.next := by show h.next + 1 < h.next + 1 + 1; omega
      have q0 : g'.get h.next = some (.cells (shC zSh) 29 true 0) := (kk.oth _ (by omega) (fun f => f)).trans hg0
      have q1 : g'.get (h.next + 1) = some (.cells (shC (prs s)) 29 true 0) := (kk.oth _ hn1 (fun f => f)).trans hg1
      cases bad with
      | true =>
        rw [hr]
        refine ⟨g'.set h.next (.cells (shC zSh) 29 true 0), ?_, Chg.beh (kg1.trans kk) (Chg.set (S := OnlyB h.next) (.inr rfl)) (fun y hy e => by have : y = h.next := e; omega)⟩
        refine ifp rfl ?_
        refine bnd rfl (bnd (stL_at q0 rfl rfl (shC_one zSh) (by decide)) ?_)
        exact bnd rfl (bnd (sh_ldA (x := zSh) (set_get _ _ _)) (bnd (sh_dec zSh) rfl))
      | false =>
        rw [hr]
        refine ⟨g'.set h.next (.cells (shC (prs s)) 29 true 0), ?_, Chg.beh (kg1.trans kk) (Chg.set (S := OnlyB h.next) (.inr rfl)) (fun y hy e => by have : y = h.next := e; omega)⟩
        refine ifn (by decide) ?_
        refine bnd rfl (bnd (sh_ldA q1) (bnd (sh_dec (prs s)) ?_))
        refine bnd rfl (bnd (stL_at q0 rfl rfl (shC_one (prs s)) (by decide)) ?_)
        exact bnd rfl (bnd (sh_ldA (x := prs s) (set_get _ _ _)) (bnd (sh_dec (prs s)) rfl))
    let g2 := g1.new (.cells (shC (prs s)) 29 true 0)
    have rc : ref06_Check k D (prs s) g1 = some (chkA (prs s), g2) := rcheck_spec k D (prs s) g1
    by_cases hc : chkA (prs s) = 0
    · obtain ⟨g3, rt, k3⟩ := rtext_spec hk D (prs s) g2 hc
      have e : (!((⟨⟨textL (prs s)⟩⟩ : ByteArray) == s)) = !decide (textL (prs s) = bl s) := by
        rw [ba_beq]; congr 1; rw [decide_eq_decide]
        exact ⟨fun q => congrArg bl q, fun q => bl_inj q⟩
      obtain ⟨h', f1, f2⟩ := fin g3 (!((⟨⟨textL (prs s)⟩⟩ : ByteArray) == s)) (decS' s) ((Keeps.new _ _).trans k3) (by
        rw [e]; unfold decS' okS
        rw [decide_eq_true (by omega), decide_eq_true hc]
        cases decide (textL (prs s) = bl s) <;> rfl)
      refine ⟨h', ?_, f2⟩
      refine ifn (by simp; omega) ?_
      refine bnd (subS_of (j := 11) (i := 7) rfl rfl (by decide) (by omega)) ?_
      refine bnd rN ?_
      refine bnd (idxS_of e4) (bnd (idxS_of e5) (bnd (idxS_of e6) ?_))
      refine bnd (subS_of (j := 43) (i := 11) rfl rfl (by decide) (by omega)) ?_
      rw [hw]
      refine bnd (subS_of (j := s.size - 4) (i := 43) rfl rfl (by omega) (by omega)) ?_
      rw [ecells]
      refine bnd (stL_at hgz rfl rfl (shC_one _) (by decide)) ?_
      refine jn ?_
      refine bnd (sh_ldA hg1) (bnd (sh_dec _) (bnd rc ?_))
      refine ifn (by simp [hc]) ?_
      have hg2 : g2.get (h.next + 1) = some (.cells (shC (prs s)) 29 true 0) := ((Keeps.new g1 _).oth _ (by show h.next + 1 < h.next + 1 + 1; omega) (fun f => f)).trans hg1
      exact bnd (sh_ldA hg2) (bnd (sh_dec _) (bnd rt f1))
    · obtain ⟨h', f1, f2⟩ := fin g2 true (decS' s) (Keeps.new _ _) (by
        unfold decS' okS
        rw [decide_eq_false hc]; simp)
      refine ⟨h', ?_, f2⟩
      refine ifn (by simp; omega) ?_
      refine bnd (subS_of (j := 11) (i := 7) rfl rfl (by decide) (by omega)) ?_
      refine bnd rN ?_
      refine bnd (idxS_of e4) (bnd (idxS_of e5) (bnd (idxS_of e6) ?_))
      refine bnd (subS_of (j := 43) (i := 11) rfl rfl (by decide) (by omega)) ?_
      rw [hw]
      refine bnd (subS_of (j := s.size - 4) (i := 43) rfl rfl (by omega) (by omega)) ?_
      rw [ecells]
      refine bnd (stL_at hgz rfl rfl (shC_one _) (by decide)) ?_
      refine jn ?_
      refine bnd (sh_ldA hg1) (bnd (sh_dec _) (bnd rc ?_))
      exact ifp (by simp [hc]) f1
end Gb
namespace Gb
open Go Gx Go.Proofs
theorem rdE_zero {s : ByteArray} {e n : Int} (h : rdE s e n = 0) : e = 0 ∧ 0 ≤ n ∧ n ≤ s.size := by
  unfold rdE at h
  split at h
  · rename_i q; exact absurd h q
  · rename_i q
    split at h
    · cases h
    · split at h
      · cases h
      · refine ⟨?_, by omega, by omega⟩
        exact Classical.byContradiction q
theorem rest_eq {s : ByteArray} {e n : Int} (h : rdE s e n = 0) : rdRest s e n = ⟨⟨(bl s).drop n.toNat⟩⟩ := by unfold rdRest; rw [if_pos h]
theorem out_eq {s : ByteArray} {e n : Int} (h : rdE s e n = 0) : rdOut s e n = ⟨⟨(bl s).take n.toNat⟩⟩ := by unfold rdOut; rw [if_pos h]
theorem rest_size {s : ByteArray} {e n : Int} (h : rdE s e n = 0) : (rdRest s e n).size = s.size - n.toNat := by rw [rest_eq h, size_mk, List.length_drop, bl_length]
theorem rest_le (s : ByteArray) (e n : Int) : (rdRest s e n).size ≤ s.size := by
  by_cases h : rdE s e n = 0
  · rw [rest_size h]; omega
  · unfold rdRest; rw [if_neg h]; exact Nat.le_refl _
theorem rdE_ok {s : ByteArray} {n : Int} (h0 : 0 ≤ n) (h : n ≤ s.size) : rdE s 0 n = 0 := by
  unfold rdE; rw [if_neg (by decide), if_neg (by omega), if_neg (by omega)]
def chS (s : ByteArray) : Sh × Int :=
  let s1 := rdRest s 0 4; let e1 := rdE s 0 4
  let s2 := rdRest s1 e1 1; let e2 := rdE s1 e1 1
  let s3 := rdRest s2 e2 1; let e3 := rdE s2 e2 1
  let s4 := rdRest s3 e3 1; let e4 := rdE s3 e3 1
  let s5 := rdRest s4 e4 4; let e5 := rdE s4 e4 4
  let s6 := rdRest s5 e5 32; let e6 := rdE s5 e5 32
  ((((numL 0 (bl (rdOut s1 e1 1)) : Nat) : Int), ((numL 0 (bl (rdOut s2 e2 1)) : Nat) : Int), ((numL 0 (bl (rdOut s3 e3 1)) : Nat) : Int), ((numL 0 (bl (rdOut s4 e4 4)) : Nat) : Int), rdOut s5 e5 32, rdOut s6 e6 ((s6.size : Int) - 4)), rdE s6 e6 ((s6.size : Int) - 4))
theorem chS_zero {s : ByteArray} (h : (chS s).2 = 0) : 47 ≤ s.size ∧ (chS s).1 = prs s := by
  simp only [chS] at h ⊢
  obtain ⟨e6, a6, b6⟩ := rdE_zero h
  obtain ⟨e5, a5, b5⟩ := rdE_zero e6
  obtain ⟨e4, a4, b4⟩ := rdE_zero e5
  obtain ⟨e3, a3, b3⟩ := rdE_zero e4
  obtain ⟨e2, a2, b2⟩ := rdE_zero e3
  obtain ⟨e1, a1, b1⟩ := rdE_zero e2
  obtain ⟨_, a0, b0⟩ := rdE_zero e1
  have z1 := rest_size e1
  have z2 := rest_size e2
  have z3 := rest_size e3
  have z4 := rest_size e4
  have z5 := rest_size e5
  have z6 := rest_size e6
  refine ⟨by omega, ?_⟩
  have r1 := rest_eq e1
  have r2 := rest_eq e2
  have r3 := rest_eq e3
  have r4 := rest_eq e4
  have r5 := rest_eq e5
  have r6 := rest_eq e6
  rw [out_eq e2, out_eq e3, out_eq e4, out_eq e5, out_eq e6, out_eq h]
  have q1 : bl (rdRest s 0 4) = (bl s).drop 4 := by rw [r1]; rfl
  have q2 : bl (rdRest (rdRest s 0 4) (rdE s 0 4) 1) = (bl s).drop 5 := by rw [r2, bl_mk, q1, List.drop_drop]; rfl
  have q3 : bl (rdRest (rdRest (rdRest s 0 4) (rdE s 0 4) 1) (rdE (rdRest s 0 4) (rdE s 0 4) 1) 1) = (bl s).drop 6 := by rw [r3, bl_mk, q2, List.drop_drop]; rfl
  generalize hs2 : rdRest (rdRest s 0 4) (rdE s 0 4) 1 = s2 at *
  generalize he2 : rdE (rdRest s 0 4) (rdE s 0 4) 1 = E2 at *
  generalize hs3 : rdRest s2 E2 1 = s3 at *
  generalize he3 : rdE s2 E2 1 = E3 at *
  have q4 : bl (rdRest s3 E3 1) = (bl s).drop 7 := by rw [r4, bl_mk, q3, List.drop_drop]; rfl
  generalize hs4 : rdRest s3 E3 1 = s4 at *
  generalize he4 : rdE s3 E3 1 = E4 at *
  have q5 : bl (rdRest s4 E4 4) = (bl s).drop 11 := by rw [r5, bl_mk, q4, List.drop_drop]; rfl
  generalize hs5 : rdRest s4 E4 4 = s5 at *
  generalize he5 : rdE s4 E4 4 = E5 at *
  have q6 : bl (rdRest s5 E5 32) = (bl s).drop 43 := by rw [r6, bl_mk, q5, List.drop_drop]; rfl
  generalize hs6 : rdRest s5 E5 32 = s6 at *
  generalize he6 : rdE s5 E5 32 = E6 at *
  have hn : ((s6.size : Int) - 4).toNat = s.size - 47 := by omega
  simp only [bl_mk, q1, q2, q3, q4, q5, q6, hn, prs]
  rfl
theorem chS_bad {s : ByteArray} (h : (chS s).2 ≠ 0) : s.size < 47 := by
  refine Classical.byContradiction fun h47 => h ?_
  simp only [chS]
  have e1 : rdE s 0 4 = 0 := rdE_ok (by decide) (by omega)
  have z1 := rest_size e1
  rw [e1]
  generalize rdRest s 0 4 = s1 at *
  have e2 : rdE s1 0 1 = 0 := rdE_ok (by decide) (by omega)
  have z2 := rest_size e2
  rw [e2]
  generalize rdRest s1 0 1 = s2 at *
  have e3 : rdE s2 0 1 = 0 := rdE_ok (by decide) (by omega)
  have z3 := rest_size e3
  rw [e3]
  generalize rdRest s2 0 1 = s3 at *
  have e4 : rdE s3 0 1 = 0 := rdE_ok (by decide) (by omega)
  have z4 := rest_size e4
  rw [e4]
  generalize rdRest s3 0 1 = s4 at *
  have e5 : rdE s4 0 4 = 0 := rdE_ok (by decide) (by omega)
  have z5 := rest_size e5
  rw [e5]
  generalize rdRest s4 0 4 = s5 at *
  have e6 : rdE s5 0 32 = 0 := rdE_ok (by decide) (by omega)
  have z6 := rest_size e6
  rw [e6]
  generalize rdRest s5 0 32 = s6 at *
  exact rdE_ok (by omega) (by omega)
theorem dec_spec {k : Nat} (hk : 70000 ≤ k) (D : CallF) (s : ByteArray) (h : AHeap) (hs : s.size < 9223372036854775807) : ∃ h', shard_Decode k D s h = some (decS' s, h') ∧ Keeps h h' := by
  simp only [shard_Decode]
  let h1 := h.new (.cells (shC zSh) 23 true 0)
  have hb1 : h1.get h.next = some (.cells (shC zSh) 23 true 0) := sh_get zSh h 23
  let b := h.next + 1
  let h2 := h1.new (.cells [.string s, .int .i64 0] 108 true 0)
  have R0 : Rdr h2 b s 0 := by show h2.get (h.next + 1) = _; simp [h2, h1]
  have k2 : Keeps h h2 := (Keeps.new h _).trans (Keeps.new h1 _)
  have n2 : h2.next = h.next + 2 := rfl
  have hb2 : h2.get h.next = some (.cells (shC zSh) 23 true 0) := ((Keeps.new h1 _).oth h.next (by simp [h1]) (fun f => f)).trans hb1
  have nb : ∀ x : Nat, x = h.next → ¬ OnlyB b x := fun x hx f => by have : x = h.next + 1 := f; omega
  obtain ⟨g1, r1, R1, c1⟩ := rbytes_spec k D R0 4
  have m1 := c1.nx
  obtain ⟨g2, r2, R2, c2⟩ := rfixed_spec (kf := k) (by omega) D R1 1 (by decide) (by decide) (by show h.next + 1 < _; omega)
  have m2 := c2.nx
  obtain ⟨g3, r3, R3, c3⟩ := rfixed_spec (kf := k) (by omega) D R2 1 (by decide) (by decide) (by show h.next + 1 < _; omega)
  have m3 := c3.nx
  obtain ⟨g4, r4, R4, c4⟩ := rfixed_spec (kf := k) (by omega) D R3 1 (by decide) (by decide) (by show h.next + 1 < _; omega)
  have m4 := c4.nx
  obtain ⟨g5, r5, R5, c5⟩ := rfixed_spec (kf := k) (by omega) D R4 4 (by decide) (by decide) (by show h.next + 1 < _; omega)
  have m5 := c5.nx
  obtain ⟨g6, r6, R6, c6⟩ := rbytes_spec k D R5 32
  have m6 := c6.nx
  simp only [Int.cast_ofNat_Int] at r2 r3 r4 r5 R2 R3 R4 R5 R6 r6
  have C6 : Chg (OnlyB b) h2 g6 := c1.trans (c2.trans (c3.trans (c4.trans (c5.trans c6))))
  have L6 := rest_le s 0 4
  have L7 := rest_le (rdRest s 0 4) (rdE s 0 4) 1
  generalize hs1 : rdRest s 0 4 = s1 at *
  generalize he1 : rdE s 0 4 = E1 at *
  generalize hs2 : rdRest s1 E1 1 = s2 at *
  generalize he2 : rdE s1 E1 1 = E2 at *
  have L8 := rest_le s2 E2 1
  generalize hs3 : rdRest s2 E2 1 = s3 at *
  generalize he3 : rdE s2 E2 1 = E3 at *
  have L9 := rest_le s3 E3 1
  generalize hs4 : rdRest s3 E3 1 = s4 at *
  generalize he4 : rdE s3 E3 1 = E4 at *
  have L10 := rest_le s4 E4 4
  generalize hs5 : rdRest s4 E4 4 = s5 at *
  generalize he5 : rdE s4 E4 4 = E5 at *
  have L11 := rest_le s5 E5 32
  generalize hs6 : rdRest s5 E5 32 = s6 at *
  generalize he6 : rdE s5 E5 32 = E6 at *
  generalize hvk : ((numL 0 (bl (rdOut s1 E1 1)) : Nat) : Int) = vk at *
  generalize hvm : ((numL 0 (bl (rdOut s2 E2 1)) : Nat) : Int) = vm at *
  generalize hvi : ((numL 0 (bl (rdOut s3 E3 1)) : Nat) : Int) = vi at *
  generalize hvl : ((numL 0 (bl (rdOut s4 E4 4)) : Nat) : Int) = vl at *
  generalize hid : rdOut s5 E5 32 = vd at *
  have hch : chS s = ((vk, vm, vi, vl, vd, rdOut s6 E6 ((s6.size : Int) - 4)), rdE s6 E6 ((s6.size : Int) - 4)) := by
    simp only [chS, hs1, he1, hs2, he2, hs3, he3, hs4, he4, hs5, he5, hs6, he6, hvk, hvm, hvi, hvl, hid]
  let y0 : Sh := (vk, vm, vi, vl, vd, ⟨#[]⟩)
  let y : Sh := (vk, vm, vi, vl, vd, rdOut s6 E6 ((s6.size : Int) - 4))
  let xb := g6.next
  let h9 := g6.new (.cells (shC zSh) 23 true 0)
  have hx9 : h9.get xb = some (.cells (shC zSh) 23 true 0) := sh_get zSh g6 23
  let h10 := h9.set xb (.cells (shC y0) 23 true 0)
  have hx10 : h10.get xb = some (.cells (shC y0) 23 true 0) := set_get _ _ _
  have c10 : Keeps g6 h10 := Chg.beh (Keeps.new g6 _) (Chg.set (S := OnlyB xb) (.inr rfl)) (fun x hx e => by have : x = g6.next := e; omega)
  have R10 : Rdr h10 b s6 E6 := R6.chg c10 (fun f => f) (by show h.next + 1 < _; omega)
  have n10 : h10.next = g6.next + 1 := rfl
  obtain ⟨h12, r12, R12, c12⟩ := rbytes_spec k D R10 ((s6.size : Int) - 4)
  have m12 := c12.nx
  have hx12 : h12.get xb = some (.cells (shC y0) 23 true 0) := (c12.oth xb (by show g6.next < g6.next + 1; omega) (fun f => by have : g6.next = h.next + 1 := f; omega)).trans hx10
  let h13 := h12.set xb (.cells (shC y) 23 true 0)
  have hx13 : h13.get xb = some (.cells (shC y) 23 true 0) := set_get _ _ _
  have c13 : Chg (OnlyB xb) h12 h13 := Chg.set (.inr rfl)
  have R13 := R12.chg c13 (fun f => by have : h.next + 1 = g6.next := f; omega) (by show h.next + 1 < _; omega)
  have hr6 : g6.get h.next = some (.cells (shC zSh) 23 true 0) := (C6.oth h.next (by omega) (nb _ rfl)).trans hb2
  have hr13 : h13.get h.next = some (.cells (shC zSh) 23 true 0) := by
    rw [c13.oth h.next (by omega) (fun f => by have : h.next = g6.next := f; omega), c12.oth h.next (by omega) (nb _ rfl), c10.oth h.next (by omega) (fun f => f)]; exact hr6
  have K13 : Keeps h h13 := by
    have a1 : Keeps h g6 := Chg.beh k2 C6 (fun x hx e => by have : x = h.next + 1 := e; omega)
    have a2 : Keeps h h12 := Chg.beh (a1.trans c10) c12 (fun x hx e => by have : x = h.next + 1 := e; omega)
    exact Chg.beh a2 c13 (fun x hx e => by have : x = g6.next := e; omega)
  have hw : IntKind.wrap .i64 ((s6.size : Int) - 4) = (s6.size : Int) - 4 := w64 _ (by omega)
  have hst : st1 (⟨xb, 5, none⟩ : Addr) (.string (rdOut s6 E6 ((s6.size : Int) - 4))) h12 = some h13 := st1_of (o := 5) hx12 (by simp [shC]) rfl
  have hn13 : g6.next < h13.next := by show g6.next < h12.next; omega
  have fin : ∀ (g' : AHeap) (bad : Bool) (r : Sh × Int), Keeps h13 g' → r = (if bad = true then (zSh, 60) else (y, 0)) → ∃ h', (if bad = true then
      ((some (⟨h.next, 0, none⟩ : Addr)).bind fun p19 => (stL 6 p19 ([.int .i64 0, .int .i64 0, .int .i64 0, .int .i64 0, .string (⟨#[]⟩ : ByteArray), .string (⟨#[]⟩ : ByteArray)]) g').bind fun h20 =>
        (some (⟨h.next, 0, none⟩ : Addr)).bind fun p21 => (ldA 6 p21 h20).bind fun l22 => (decC [.i .i64, .i .i64, .i .i64, .i .i64, .s, .s] l22).bind fun x23 => some (((x23.1, x23.2.1, x23.2.2.1, x23.2.2.2.1, x23.2.2.2.2.1, x23.2.2.2.2.2), (60 : Int)), h20))
      else ((some (⟨xb, 0, none⟩ : Addr)).bind fun p24 => (ldA 6 p24 g').bind fun l25 => (decC [.i .i64, .i .i64, .i .i64, .i .i64, .s, .s] l25).bind fun x26 =>
        (some (⟨h.next, 0, none⟩ : Addr)).bind fun p27 => (stL 6 p27 ([.int .i64 x26.1, .int .i64 x26.2.1, .int .i64 x26.2.2.1, .int .i64 x26.2.2.2.1, .string x26.2.2.2.2.1, .string x26.2.2.2.2.2]) g').bind fun h28 =>
        (some (⟨h.next, 0, none⟩ : Addr)).bind fun p29 => (ldA 6 p29 h28).bind fun l30 => (decC [.i .i64, .i .i64, .i .i64, .i .i64, .s, .s] l30).bind fun x31 => some (((x31.1, x31.2.1, x31.2.2.1, x31.2.2.2.1, x31.2.2.2.2.1, x31.2.2.2.2.2), (0 : Int)), h28))) = some (r, h') ∧ Keeps h h' := by
    intro g' bad r kk hr
    have q0 : g'.get h.next = some (.cells (shC zSh) 23 true 0) := (kk.oth _ (by omega) (fun f => f)).trans hr13
    have q1 : g'.get xb = some (.cells (shC y) 23 true 0) := (kk.oth _ hn13 (fun f => f)).trans hx13
    cases bad with
    | true =>
      rw [hr]
      refine ⟨g'.set h.next (.cells (shC zSh) 23 true 0), ?_, Chg.beh (K13.trans kk) (Chg.set (S := OnlyB h.next) (.inr rfl)) (fun x hx e => by have : x = h.next := e; omega)⟩
      refine ifp rfl ?_
      refine bnd rfl (bnd (stL_at q0 rfl rfl (shC_one zSh) (by decide)) ?_)
      exact bnd rfl (bnd (sh_ldA (x := zSh) (set_get _ _ _)) (bnd (sh_dec zSh) rfl))
    | false =>
      rw [hr]
      refine ⟨g'.set h.next (.cells (shC y) 23 true 0), ?_, Chg.beh (K13.trans kk) (Chg.set (S := OnlyB h.next) (.inr rfl)) (fun x hx e => by have : x = h.next := e; omega)⟩
      refine ifn (by decide) ?_
      refine bnd rfl (bnd (sh_ldA q1) (bnd (sh_dec y) ?_))
      refine bnd rfl (bnd (stL_at q0 rfl rfl (shC_one y) (by decide)) ?_)
      exact bnd rfl (bnd (sh_ldA (x := y) (set_get _ _ _)) (bnd (sh_dec y) rfl))
  by_cases he : rdE s6 E6 ((s6.size : Int) - 4) = 0
  · have hz : (chS s).2 = 0 := by rw [hch]; exact he
    obtain ⟨q47, qy⟩ := chS_zero hz
    rw [hch] at qy
    have qy : y = prs s := qy
    let h14 := h13.new (.cells (shC y) 23 true 0)
    have rc : shard_Check k D y h13 = some (chkA y, h14) := check_spec k D y h13
    have hx14 : h14.get xb = some (.cells (shC y) 23 true 0) := ((Keeps.new h13 _).oth _ hn13 (fun f => f)).trans hx13
    by_cases hc : chkA y = 0
    · obtain ⟨h15, rt, k15⟩ := text_spec hk D y h14 hc
      have e : (!((⟨⟨textL y⟩⟩ : ByteArray) == s)) = !decide (textL y = bl s) := by
        rw [ba_beq]; congr 1; rw [decide_eq_decide]
        exact ⟨fun q => congrArg bl q, fun q => bl_inj q⟩
      obtain ⟨h', f1, f2⟩ := fin h15 (!((⟨⟨textL y⟩⟩ : ByteArray) == s)) (decS' s) ((Keeps.new _ _).trans k15) (by
        rw [e, qy]; rw [qy] at hc; unfold decS' okS
        rw [decide_eq_true q47, decide_eq_true hc]
        cases decide (textL (prs s) = bl s) <;> rfl)
      refine ⟨h', ?_, f2⟩
      refine bnd (read_spec k D s h1) ?_
      refine bnd r1 (bnd r2 (bnd r3 (bnd r4 (bnd r5 (bnd r6 ?_)))))
      refine bnd (stL_at hx9 rfl rfl (shC_one y0) (by decide)) ?_
      refine bnd (left_spec k D R10) ?_
      rw [hw]
      refine bnd r12 (bnd hst ?_)
      refine jn ?_
      refine bnd (err_spec k D R13) ?_
      refine ifn (by simp [he]) ?_
      refine bnd (sh_ldA hx13) (bnd (sh_dec y) (bnd rc ?_))
      refine ifn (by simp [hc]) ?_
      exact bnd (sh_ldA hx14) (bnd (sh_dec y) (bnd rt f1))
    · obtain ⟨h', f1, f2⟩ := fin h14 true (decS' s) (Keeps.new _ _) (by
        rw [qy] at hc; unfold decS' okS
        rw [decide_eq_false hc]; simp)
      refine ⟨h', ?_, f2⟩
      refine bnd (read_spec k D s h1) ?_
      refine bnd r1 (bnd r2 (bnd r3 (bnd r4 (bnd r5 (bnd r6 ?_)))))
      refine bnd (stL_at hx9 rfl rfl (shC_one y0) (by decide)) ?_
      refine bnd (left_spec k D R10) ?_
      rw [hw]
      refine bnd r12 (bnd hst ?_)
      refine jn ?_
      refine bnd (err_spec k D R13) ?_
      refine ifn (by simp [he]) ?_
      refine bnd (sh_ldA hx13) (bnd (sh_dec y) (bnd rc ?_))
      exact ifp (by simp [hc]) f1
  · have hz : (chS s).2 ≠ 0 := by rw [hch]; exact he
    have q47 := chS_bad hz
    obtain ⟨h', f1, f2⟩ := fin h13 true (decS' s) (Chg.refl _ _) (by
      unfold decS' okS
      rw [decide_eq_false (by omega)]; rfl)
    refine ⟨h', ?_, f2⟩
    refine bnd (read_spec k D s h1) ?_
    refine bnd r1 (bnd r2 (bnd r3 (bnd r4 (bnd r5 (bnd r6 ?_)))))
    refine bnd (stL_at hx9 rfl rfl (shC_one y0) (by decide)) ?_
    refine bnd (left_spec k D R10) ?_
    rw [hw]
    refine bnd r12 (bnd hst ?_)
    refine jn ?_
    refine bnd (err_spec k D R13) ?_
    exact ifp (by simp [he]) f1
end Gb
namespace Gb
open Go Gx Go.Proofs
theorem enc_dec {s : ByteArray} (h : okS s = true) : encA (prs s) = (s, 0) := by
  unfold okS at h
  simp only [Bool.and_eq_true, decide_eq_true_eq] at h
  unfold encA
  rw [if_pos h.2.1, h.2.2]; rfl
theorem writes_true {k : Nat} (hk : 70000 ≤ k) (D : CallF) (x : Sh) (s : ByteArray) (h : AHeap) : ∃ h', law06_ShardWrites k D x s h = some (true, h') := by
  simp only [law06_ShardWrites]
  let h1 := h.new (.cells (shC x) 23 true 0)
  have hb1 : h1.get h.next = some (.cells (shC x) 23 true 0) := sh_get x h 23
  have hn1 : h.next < h1.next := by simp [h1]
  by_cases hd : x.2.2.2.2.2.size > 2000
  · obtain ⟨h', r, _⟩ := works_spec (k := k) (by omega) D h1
    refine ⟨h', ?_⟩
    refine jn ?_
    refine bnd (ldS_at hb1 rfl) ?_
    refine ifp (by simp; omega) ?_
    refine ifp rfl ?_
    exact bnd r rfl
  · by_cases hs : s.size > 2000
    · obtain ⟨h', r, _⟩ := works_spec (k := k) (by omega) D h1
      refine ⟨h', ?_⟩
      refine jn ?_
      refine bnd (ldS_at hb1 rfl) ?_
      refine ifn (by simp; omega) ?_
      refine ifp (by simp; omega) ?_
      exact bnd r rfl
    · have keep : ∀ g, Keeps h1 g → g.get h.next = some (.cells (shC x) 23 true 0) := fun g kg => (kg.oth _ hn1 (fun f => f)).trans hb1
      obtain ⟨g1, r1, k1⟩ := enc_spec hk D x h1
      obtain ⟨g2, r2, k2⟩ := of_spec k D x g1
      obtain ⟨g3, r3, k3⟩ := renc_spec hk D x g2
      obtain ⟨g4, r4, k4⟩ := dec_spec hk D s g3 (by omega)
      let g5 := g4.new (.cells (shC zSh) 23 true 0)
      have hb5 : g5.get g4.next = some (.cells (shC zSh) 23 true 0) := sh_get zSh g4 23
      let y := (decS' s).1
      let g6 := g5.set g4.next (.cells (shC y) 23 true 0)
      have hb6 : g6.get g4.next = some (.cells (shC y) 23 true 0) := set_get _ _ _
      have k6 : Keeps g4 g6 := Chg.beh (Keeps.new g4 _) (Chg.set (S := OnlyB g4.next) (.inr rfl)) (fun x hx e => by have : x = g4.next := e; omega)
      obtain ⟨g7, r7, k7⟩ := rdec_spec hk D s g6 (by omega)
      let g8 := g7.new (.cells (shC zSh) 29 true 0)
      have hb8 : g8.get g7.next = some (.cells (shC zSh) 29 true 0) := sh_get zSh g7 29
      let g9 := g8.set g7.next (.cells (shC y) 29 true 0)
      have hb9 : g9.get g7.next = some (.cells (shC y) 29 true 0) := set_get _ _ _
      have k9 : Keeps g7 g9 := Chg.beh (Keeps.new g7 _) (Chg.set (S := OnlyB g7.next) (.inr rfl)) (fun x hx e => by have : x = g7.next := e; omega)
      have K9 : Keeps h1 g9 := k1.trans (k2.trans (k3.trans (k4.trans (k6.trans (k7.trans k9)))))
      let g10 := g9.new (.cells (shC x) 23 true 0)
      have k10 : Keeps g9 g10 := Keeps.new _ _
      have r10 : shard_Check k D x g9 = some (chkA x, g10) := check_spec k D x g9
      obtain ⟨g11, r11, k11⟩ := of_spec k D x g10
      let g12 := g11.new (.cells (shC x) 29 true 0)
      have k12 : Keeps g11 g12 := Keeps.new _ _
      have r12 : ref06_Check k D x g11 = some (chkA x, g12) := rcheck_spec k D x g11
      have K12 : Keeps g9 g12 := k10.trans (k11.trans k12)
      have n9 : g7.next < g9.next := by show g7.next < g7.next + 1; omega
      have n6 : g4.next < g9.next := by
        have a1 := k7.nx; have a2 := k9.nx
        have : g6.next = g4.next + 1 := rfl
        omega
      have hy12 : g12.get g4.next = some (.cells (shC y) 23 true 0) := by
        rw [K12.oth _ n6 (fun f => f), k9.oth _ (by have a1 := k7.nx; have : g6.next = g4.next + 1 := rfl; omega) (fun f => f), k7.oth _ (by show g4.next < g4.next + 1; omega) (fun f => f)]
        exact hb6
      have hz12 : g12.get g7.next = some (.cells (shC y) 29 true 0) := (K12.oth _ n9 (fun f => f)).trans hb9
      obtain ⟨g13, r13, k13⟩ := same_spec k D y g12
      have r14 := crc_spec (k := k) (by omega) D s g13 (by omega) (by omega)
      have r15 := rcrc_spec (k := k) (by omega) D s (g13.new (.cells (bytesL s) 5 true 0)) (by omega) (by omega)
      obtain ⟨g16, r16, _⟩ := works_spec (k := k) (by omega) D (g13.new (.cells (bytesL s) 5 true 0))
      refine ⟨g16, ?_⟩
      refine jn ?_
      refine bnd (ldS_at hb1 rfl) ?_
      refine ifn (by simp; omega) ?_
      refine ifn (by simp; omega) ?_
      refine bnd rfl (bnd (sh_ldA hb1) (bnd (sh_dec x) (bnd r1 ?_)))
      refine bnd rfl (bnd (sh_ldA (keep g1 k1)) (bnd (sh_dec x) (bnd r2 ?_)))
      refine bnd r3 (bnd r4 ?_)
      refine bnd (stL_at hb5 rfl rfl (shC_one y) (by decide)) ?_
      refine bnd r7 ?_
      refine bnd (stL_at hb8 rfl rfl (shC_one y) (by decide)) ?_
      refine ifp (by simp [ba_beq]) ?_
      refine ifp (by simp) ?_
      refine bnd rfl (bnd (sh_ldA (keep g9 K9)) (bnd (sh_dec x) (bnd r10 ?_)))
      refine bnd rfl (bnd (sh_ldA (keep g10 (K9.trans k10))) (gp (sw1 (bnd rfl (bnd (sh_ldA (keep g9 K9)) rfl))) ?_))
      refine bnd (sh_dec x) (bnd r11 (bnd r12 ?_))
      refine ifp (by simp) ?_
      refine bnd (sh_ldA hy12) (bnd (sh_dec y) ?_)
      refine bnd (sh_ldA hz12) (bnd (sh_dec y) ?_)
      refine bnd r13 ?_
      refine ifp rfl ?_
      refine ifp (by simp) ?_
      refine bnd r14 (bnd r15 ?_)
      refine ifp (by simp) ?_
      exact bnd r16 rfl
end Gb
