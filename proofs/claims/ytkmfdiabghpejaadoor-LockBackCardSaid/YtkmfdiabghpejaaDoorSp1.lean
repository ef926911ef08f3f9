import Derived.Lib.Atoi
import Derived.Lib.ItoaNum
import Derived.Test.YtkmfdiabghpejaaDoorFn1
namespace Gl
open Go
theorem digit_val {m : Nat} (h : m < 10) : Lib.digitVal (UInt8.ofNat (48 + m)) = some m := by
 have : m = 0 ∨ m = 1 ∨ m = 2 ∨ m = 3 ∨ m = 4 ∨ m = 5 ∨ m = 6 ∨ m = 7 ∨ m = 8 ∨ m = 9 := by omega
 rcases this with rfl | rfl | rfl | rfl | rfl | rfl | rfl | rfl | rfl | rfl <;> rfl
theorem decFrom_app (b : UInt8) : ∀ (l : List UInt8) (acc : Nat), Lib.decFrom acc (l ++ [b]) = (Lib.decFrom acc l).bind fun n => (Lib.digitVal b).map fun d => n * 10 + d
 | [], acc => by
  simp only [List.nil_append, Lib.decFrom, Option.bind_some]
  cases Lib.digitVal b <;> rfl
 | c :: r, acc => by
  simp only [List.cons_append, Lib.decFrom]
  cases Lib.digitVal c with
  | none => rfl
  | some d => exact decFrom_app b r (acc * 10 + d)
theorem decFrom_dec : ∀ (k u : Nat), u ≤ k → Lib.decFrom 0 (Lib.decDigits u) = some u
 | k, u, hk => by
  by_cases h : u < 10
  ·rw [Lib.decDigits_one h]
   simp only [Lib.decFrom, digit_val h]
   simp
  ·rw [Lib.decDigits, dif_neg h, decFrom_app]
   match k with
   | 0 => omega
   | k + 1 =>
    rw [decFrom_dec k (u / 10) (by omega), digit_val (by omega)]
    simp only [Option.bind_some, Option.map_some, Option.some.injEq]
    omega
theorem dec_bytes : ∀ (k u : Nat), u ≤ k → ∀ b ∈ Lib.decDigits u, 48 ≤ b.toNat ∧ b.toNat ≤ 57
 | k, u, hk, b, hb => by
  have one : ∀ m, m < 10 → 48 ≤ (UInt8.ofNat (48 + m)).toNat ∧ (UInt8.ofNat (48 + m)).toNat ≤ 57 := fun m hm => by
   have : m = 0 ∨ m = 1 ∨ m = 2 ∨ m = 3 ∨ m = 4 ∨ m = 5 ∨ m = 6 ∨ m = 7 ∨ m = 8 ∨ m = 9 := by omega
   rcases this with rfl | rfl | rfl | rfl | rfl | rfl | rfl | rfl | rfl | rfl <;> decide
  by_cases h : u < 10
  ·rw [Lib.decDigits_one h] at hb
   rw [List.mem_singleton.1 hb]; exact one u h
  ·rw [Lib.decDigits, dif_neg h] at hb
   match k with
   | 0 => omega
   | k + 1 =>
    rcases List.mem_append.1 hb with hb | hb
    ·exact dec_bytes k (u / 10) (by omega) b hb
    ·rw [List.mem_singleton.1 hb]; exact one _ (by omega)
theorem dec_ne (u : Nat) : Lib.decDigits u ≠ [] := by
 by_cases h : u < 10
 ·rw [Lib.decDigits_one h]; simp
 ·rw [Lib.decDigits, dif_neg h]; simp
theorem atoi_dec (u : Nat) : Lib.atoi (Lib.decDigits u) = some (u : Int) := by
 have hb := dec_bytes u u (Nat.le_refl _)
 have hd := decFrom_dec u u (Nat.le_refl _)
 cases hl : Lib.decDigits u with
 | nil => exact (dec_ne u hl).elim
 | cons b r =>
  rw [hl] at hb hd
  have hb0 := hb b (by simp)
  have n1 : ¬ (b == 45) = true := fun h => by have := beq_iff_eq.1 h; rw [this] at hb0; revert hb0; decide
  have n2 : ¬ (b == 43) = true := fun h => by have := beq_iff_eq.1 h; rw [this] at hb0; revert hb0; decide
  unfold Lib.atoi
  dsimp only
  rw [if_neg n1, if_neg n2]
  unfold Lib.decNat
  rw [if_neg (by simp), hd]; rfl
theorem dec_len : ∀ (k u : Nat), u < 10 ^ (k + 1) → (Lib.decDigits u).length ≤ k + 1
 | 0, u, h => by rw [Lib.decDigits_one (by simpa using h)]; simp
 | k + 1, u, h => by
  by_cases h10 : u < 10
  ·rw [Lib.decDigits_one h10]; simp
  ·rw [Lib.decDigits, dif_neg h10, List.length_append]
   have := dec_len k (u / 10) (by rw [Nat.pow_succ] at h; omega)
   simp only [List.length_cons, List.length_nil]
   omega
end Gl
namespace Gl
open Go Gx
def starts (b n : ByteArray) : Bool := decide ((bl n).take b.size = bl b)
theorem starts_short {b n : ByteArray} (h : n.size < b.size) : starts b n = false := by
 apply decide_eq_false
 intro q
 have := congrArg List.length q
 have h1 : (bl n).length = n.size := rfl
 have h2 : (bl b).length = b.size := rfl
 simp at this; omega
theorem starts_sub {b n : ByteArray} (h : b.size ≤ n.size) : ∃ s, Gx.subS n none (some (b.size : Int)) = some s ∧ (s == b) = starts b n := by
 refine ⟨_, subS_of (i := 0) (j := b.size) rfl rfl (Nat.zero_le _) h, ?_⟩
 rw [ba_beq]
 unfold starts
 have : ((⟨⟨((bl n).take b.size).drop 0⟩⟩ : ByteArray) = b) ↔ (bl n).take b.size = bl b := by
  rw [List.drop_zero]
  exact ⟨fun q => congrArg bl q, fun q => by rw [q]; rfl⟩
 by_cases q : (bl n).take b.size = bl b
 ·rw [decide_eq_true q, decide_eq_true (this.2 q)]
 ·rw [decide_eq_false q, decide_eq_false fun e => q (this.1 e)]
theorem hasPrefix_spec {k : Nat} (D : CallF) (n b : ByteArray) (h : AHeap) : internal_stringslite_HasPrefix k D n b h = some (starts b n, h) := by
 simp only [internal_stringslite_HasPrefix]
 by_cases q : b.size ≤ n.size
 ·obtain ⟨s, e1, e2⟩ := starts_sub q
  rw [if_pos (by simp; omega), e1]
  simp [e2]
 ·rw [if_neg (by simp; omega), starts_short (by omega)]
theorem sub_tail (b d : ByteArray) : Gx.subS (b ++ d) (some (b.size : Int)) none = some d := by
 have hs : (b ++ d).size = b.size + d.size := ByteArray.size_append
 have e := subS_of (s := b ++ d) (lo := some (b.size : Int)) (hi := none) (i := b.size) (j := (b ++ d).size) rfl rfl (by omega) (Nat.le_refl _)
 rw [e]
 have hb : bl (b ++ d) = bl b ++ bl d := by simp [bl]
 have l1 : (bl (b ++ d)).length = (b ++ d).size := rfl
 have l2 : (bl b).length = b.size := rfl
 rw [← l1, List.take_length, hb, ← l2, List.drop_left]; rfl
theorem starts_app (b d : ByteArray) : starts b (b ++ d) = true := by
 unfold starts
 have hb : bl (b ++ d) = bl b ++ bl d := by simp [bl]
 have l2 : (bl b).length = b.size := rfl
 rw [hb, ← l2, List.take_left]
 exact decide_eq_true rfl
def exN : ByteArray := ⟨#[108, 111, 99, 107, 47, 120, 45]⟩
def shN : ByteArray := ⟨#[108, 111, 99, 107, 47, 115, 45]⟩
def foN : ByteArray := ⟨#[108, 111, 99, 107, 47]⟩
def digN (j : Nat) : ByteArray := ⟨(Lib.decDigits j).toArray⟩
theorem starts_sh (d : ByteArray) : starts exN (shN ++ d) = false := by
 unfold starts
 have hb : bl (shN ++ d) = bl shN ++ bl d := by simp [bl]
 rw [hb]
 refine decide_eq_false fun e => ?_
 have e := congrArg (fun l : List UInt8 => l[5]?) e
 rw [show exN.size = 7 from rfl] at e
 have : ((bl shN ++ bl d).take 7)[5]? = (bl shN)[5]? := by
  rw [List.getElem?_take, if_pos (by decide), List.getElem?_append_left (by decide)]
 simp only [this] at e
 revert e; decide
abbrev Lk := Int × Bool
def okL (l : Lk) : Prop := 1 ≤ l.1 ∧ l.1 ≤ 1099511627776
def nameL (l : Lk) : ByteArray := (if l.2 = true then exN else shN) ++ digN l.1.toNat
structure GL (h : AHeap) : Prop where
 tab : tabP 0 h
 err : ifcP 1 h
 nx : 2 ≤ h.next
theorem GL.keeps {h h' : AHeap} (g : GL h) (k : Keeps h h') : GL h' := by
 obtain ⟨⟨e, ht⟩, ⟨t, v, he⟩, nx⟩ := g
 refine ⟨⟨e, (k.oth 0 (by omega) fun f => f).trans ht⟩, ⟨t, v, ?_⟩, Nat.le_trans nx k.nx⟩
 simp only [AHeap.rd1, k.oth 1 (by omega) fun f => f] at he ⊢
 exact he
theorem itoa_is {h : AHeap} (g : GL h) {n : Int} (h1 : 1 ≤ n) (h2 : n ≤ 1099511627776) : itoaG 0 n h = some (digN n.toNat) := by
 unfold itoaG
 rw [if_pos ⟨g.tab, by omega, by omega⟩]
 have : Lib.itoa n = Lib.decDigits n.toNat := by unfold Lib.itoa; rw [if_neg (by omega)]
 rw [this]; rfl
theorem digN_size {n : Int} (h2 : n ≤ 1099511627776) : (digN n.toNat).size ≤ 18 := by
 have := dec_len 17 n.toNat (by omega)
 show (Lib.decDigits n.toNat).length ≤ 18
 exact this
theorem atoi_is {h : AHeap} {n : Int} (h1 : 1 ≤ n) (h2 : n ≤ 1099511627776) : atoiA 100 1 (digN n.toNat) h = some ((n, .nilIface), h) := by
 unfold atoiA
 rw [if_pos (digN_size h2), show (digN n.toNat).data.toList = Lib.decDigits n.toNat from rfl, atoi_dec]
 simp only []
 rw [Int.toNat_of_nonneg (by omega)]
theorem atoi_fo {h : AHeap} (g : GL h) : atoiA 100 1 foN h = some ((0, .iface 100 (.pointer (some ⟨h.next, 0, none⟩))), h.resv 1) := by
 unfold atoiA
 rw [if_pos (by decide), show Lib.atoi foN.data.toList = none from by decide]
 simp only []
 rw [if_pos g.err]
section
variable {k : Nat} {h : AHeap}
theorem check_spec (D : CallF) (l : Lk) : ∃ h', lock_Check k D l h = some (if 1 ≤ l.1 ∧ l.1 ≤ 1099511627776 then 0 else 1, h') ∧ Keeps h h' := by
 simp only [lock_Check]
 suffices hs : Gx.Wp (lock_Check k D l h) fun z => z.1 = (if 1 ≤ l.1 ∧ l.1 ≤ 1099511627776 then 0 else 1) ∧ Keeps h z.2 by
  obtain ⟨⟨r, h'⟩, e, q1, q2⟩ := hs
  simp only [lock_Check] at e
  simp only [] at q1
  subst q1
  exact ⟨h', e, q2⟩
 simp only [lock_Check]
 refine Wp.newE fun h1 e1 k1 n1 g1 => Wp.jn fun j4 h4 => .bnd (sldI_at g1 rfl) ?_
 by_cases c1 : l.1 < 1
 ·refine .ifp (decide_eq_true c1) ?_
  rw [h4]
  exact .ifp rfl (.of ⟨by rw [if_neg (by omega)], k1⟩)
 refine .ifn (fun w => c1 (of_decide_eq_true w)) (.bnd (sldI_at g1 rfl) ?_)
 rw [h4]
 by_cases c2 : l.1 > 1099511627776
 ·rw [decide_eq_true c2]
  exact .ifp rfl (.of ⟨by rw [if_neg (by omega)], k1⟩)
 ·rw [decide_eq_false c2]
  exact .ifn (by decide) (.of ⟨by rw [if_pos (by omega)], k1⟩)
theorem check_ok (D : CallF) {l : Lk} (ok : okL l) : ∃ h', lock_Check k D l h = some (0, h') ∧ Keeps h h' := by
 obtain ⟨h', e, q⟩ := check_spec (k := k) (h := h) D l
 rw [if_pos (show 1 ≤ l.1 ∧ l.1 ≤ 1099511627776 from ok)] at e
 exact ⟨h', e, q⟩
theorem ldB_at {h : AHeap} {b o : Nat} {sp : Option Nat} {c : List Value} {e : TypeId} {r : Bool} {fz : Nat} {m : Bool} (hb : h.get b = some (.cells c e r fz)) (hc : c[o]? = some (.bool m)) : ldB ⟨b, o, sp⟩ h = some m := by
 simp only [ldB, AHeap.rd1, hb, hc]; rfl
theorem name_spec (D : CallF) (g : GL h) {l : Lk} (ok : okL l) : ∃ h', lock_Name k D l h = some (nameL l, h') ∧ Keeps h h' := by
 suffices hs : Gx.Wp (lock_Name k D l h) fun z => z.1 = nameL l ∧ Keeps h z.2 by
  obtain ⟨⟨r, h'⟩, e, q1, q2⟩ := hs
  simp only [] at q1
  subst q1
  exact ⟨h', e, q2⟩
 simp only [lock_Name]
 refine Wp.newE fun h1 e1 k1 n1 g1 => .bnd (sldA_at g1 rfl) (.bnd rfl ?_)
 obtain ⟨h2, e2, k2⟩ := check_ok (k := k) (h := h1) D ok
 have kk := k1.trans k2
 have g2 : h2.get h.next = some (.cells [.int .i64 l.1, .bool l.2] 46 true 0) := k2.got (by omega) g1
 have hz := digN_size ok.2
 refine .bnd e2 (.ifn (by simp) (.bnd (ldB_at g2 rfl) ?_))
 by_cases x : l.2 = true
 ·refine .ifp x (.bnd (sldI_at g2 rfl) (.bnd (itoa_is (g.keeps kk) ok.1 ok.2) (.ifp (by show 7 + (digN l.1.toNat).size ≤ _; omega) (.of ⟨?_, kk⟩))))
  unfold nameL; rw [if_pos x]; rfl
 ·refine .ifn x (.bnd (sldI_at g2 rfl) (.bnd (itoa_is (g.keeps kk) ok.1 ok.2) (.ifp (by show 7 + (digN l.1.toNat).size ≤ _; omega) (.of ⟨?_, kk⟩))))
  unfold nameL; rw [if_neg x]; rfl
theorem parse_name (D : CallF) (g : GL h) {l : Lk} (ok : okL l) : ∃ h', lock_Parse k D (nameL l) h = some ((l, 0), h') ∧ Keeps h h' := by
 suffices hs : Gx.Wp (lock_Parse k D (nameL l) h) fun z => z.1 = (l, 0) ∧ Keeps h z.2 by
  obtain ⟨⟨r, h'⟩, e, q1, q2⟩ := hs
  simp only [] at q1
  subst q1
  exact ⟨h', e, q2⟩
 simp only [lock_Parse]
 refine Wp.newE fun h1 e1 k1 n1 g1 => ?_
 have ec : strings_CutPrefix k D (nameL l) exN h1 = some (((if l.2 = true then digN l.1.toNat else nameL l), l.2), h1) := by
  simp only [strings_CutPrefix, internal_stringslite_CutPrefix]
  unfold nameL
  by_cases x : l.2 = true
  ·rw [if_pos x, if_pos x, x]
   refine bnd (v := ((digN l.1.toNat, true), h1)) (bnd (hasPrefix_spec D _ _ _) ?_) rfl
   rw [starts_app]
   exact ifn (by simp) (bnd (sub_tail _ _) rfl)
  ·rw [if_neg x, if_neg x, Bool.eq_false_iff.2 x]
   refine bnd (v := ((shN ++ digN l.1.toNat, false), h1)) (bnd (hasPrefix_spec D _ _ _) ?_) rfl
   rw [starts_sh]
   exact ifp (by simp) rfl
 refine .bnd ec (Wp.jn fun j8 h8 => ?_)
 have go : Gx.Wp (j8 (nameL l) (some ⟨h.next, 0, none⟩) (digN l.1.toNat) l.2 h1) fun z => z.1 = (l, 0) ∧ Keeps h z.2 := by
  rw [h8]
  dsimp only
  refine .bnd (atoi_is ok.1 ok.2) (Wp.newE fun h10 e10 k10 n10 g10 => Wp.stL g10 rfl rfl rfl (by decide) fun h11 c11 n11 g11 => Wp.jn fun j16 h16 => ?_)
  have k11 : Keeps h1 h11 := k10.keepsS c11 fun y hy => by have hy : y = h1.next := hy; omega
  have g11 : h11.get h1.next = some (.cells [.int .i64 l.1, .bool l.2] 46 true 0) := g11
  obtain ⟨h33, e33, k33⟩ := check_ok (k := k) (h := h11) D ok
  have n11' : h11.next = h1.next + 1 := by have : h10.next = h1.next + 1 := n10; omega
  have g33 : h33.get h1.next = some (.cells [.int .i64 l.1, .bool l.2] 46 true 0) := k33.got (by omega) g11
  have kk := (k1.trans k11).trans k33
  obtain ⟨h36, e36, k36⟩ := name_spec (k := k) (h := h33) D (g.keeps kk) ok
  have m33 := k33.nx
  have g36 : h36.get h1.next = some (.cells [.int .i64 l.1, .bool l.2] 46 true 0) := k36.got (by omega) g33
  have k1_36 : Keeps h1 h36 := (k11.trans k33).trans k36
  have gy : h36.get h.next = some (.cells [.int .i64 0, .bool false] 46 true 0) := k1_36.got (by omega) g1
  refine .bnd rfl (.ifn (by decide) (.bnd (sldA_at g11 rfl) (.bnd rfl (.bnd e33 (.ifn (by simp) (.bnd (sldA_at g33 rfl) (.bnd rfl (.bnd e36 ?_))))))))
  rw [h16]
  dsimp only
  refine .ifn (by rw [ba_beq]; simp) (.bnd rfl (.bnd (sldA_at g36 rfl) (.bnd rfl (.bnd rfl (Wp.stL gy rfl rfl rfl (by decide) fun h26 c26 n26 g26 => .bnd rfl (.bnd (sldA_at g26 rfl) (.bnd rfl (.of ⟨rfl, ?_⟩))))))))
  exact (k1.trans k1_36).keepsS c26 fun y hy => by have hy : y = h.next := hy; omega
 by_cases x : l.2 = true
 ·rw [if_pos x] 
  refine .ifn (by rw [x]; decide) go
 ·rw [if_neg x]
  refine .ifp (by rw [Bool.eq_false_iff.2 x]; decide) (.bnd (a := (digN l.1.toNat, h1)) ?_ go)
  simp only [strings_TrimPrefix, internal_stringslite_TrimPrefix]
  unfold nameL
  rw [if_neg x]
  refine bnd (v := (digN l.1.toNat, h1)) (bnd (hasPrefix_spec D _ _ _) ?_) rfl
  rw [show (⟨#[108, 111, 99, 107, 47, 115, 45]⟩ : ByteArray) = shN from rfl, starts_app]
  exact ifp rfl (bnd (sub_tail _ _) rfl)
theorem parse_fo (D : CallF) (g : GL h) : ∃ h', lock_Parse k D foN h = some (((0, false), 5), h') ∧ Keeps h h' := by
 suffices hs : Gx.Wp (lock_Parse k D foN h) fun z => z.1 = ((0, false), 5) ∧ Keeps h z.2 by
  obtain ⟨⟨r, h'⟩, e, q1, q2⟩ := hs
  simp only [] at q1
  subst q1
  exact ⟨h', e, q2⟩
 simp only [lock_Parse]
 refine Wp.newE fun h1 e1 k1 n1 g1 => ?_
 have ec : strings_CutPrefix k D foN exN h1 = some ((foN, false), h1) := by
  simp only [strings_CutPrefix, internal_stringslite_CutPrefix]
  refine bnd (v := ((foN, false), h1)) (bnd (hasPrefix_spec D _ _ _) ?_) rfl
  rw [starts_short (by decide)]
  exact ifp (by simp) rfl
 have et : strings_TrimPrefix k D foN shN h1 = some (foN, h1) := by
  simp only [strings_TrimPrefix, internal_stringslite_TrimPrefix]
  refine bnd (v := (foN, h1)) (bnd (hasPrefix_spec D _ _ _) ?_) rfl
  rw [starts_short (by decide)]
  exact ifn (by simp) rfl
 refine .bnd ec (Wp.jn fun j8 h8 => .ifp (by simp) (.bnd et ?_))
 rw [h8]
 dsimp only
 have kr : Keeps h1 (h1.resv 1) := ⟨Nat.le_succ _, fun _ _ _ => rfl⟩
 refine .bnd (atoi_fo (g.keeps k1)) (Wp.newE fun h10 e10 k10 n10 g10 => Wp.stL g10 rfl rfl rfl (by decide) fun h11 c11 n11 g11 => Wp.jn fun j16 h16 => .bnd rfl (.ifp (by simp) ?_))
 rw [h16]
 dsimp only
 have n10' : h10.next = h1.next + 2 := n10
 have k11 : Keeps h1 h11 := (kr.trans k10).keepsS c11 fun y hy => by have hy : y = h1.next + 1 := hy; omega
 have gy : h11.get h.next = some (.cells [.int .i64 0, .bool false] 46 true 0) := k11.got (by omega) g1
 refine .ifp rfl (.bnd rfl (Wp.stL gy rfl rfl rfl (by decide) fun h18 c18 n18 g18 => .bnd rfl (.bnd (sldA_at g18 rfl) (.bnd rfl (.of ⟨rfl, ?_⟩)))))
 exact (k1.trans k11).keepsS c18 fun y hy => by have hy : y = h.next := hy; omega
end
end Gl
namespace Gl
open Go Gx
noncomputable def DD (k : Nat) : CallF := mkC noC [e_lock_Odds_1 k noC]
theorem DD_sound (k : Nat) : CSound Go.Proofs.Tryd.prog 5 (DD k) := mkC_sound noC_sound (EntsOk.more (ok_lock_Odds_1 noC_sound k) EntsOk.none)
def isN (x : ByteArray × Option Lk) : Prop := match x.2 with
 | some b => okL b ∧ x.1 = nameL b
 | none => x.1 = foN
def oddB (l : Lk) : Option Lk → Bool
 | some b => !(b.1 == l.1) && (b.2 || l.2)
 | none => false
section
variable {k : Nat} {h : AHeap}
theorem odd1_spec (D : CallF) (g : GL h) {l : Lk} {lb : Nat} (hl : h.get lb = some (.cells [.int .i64 l.1, .bool l.2] 46 true 0)) (lt : lb < h.next) {x : ByteArray × Option Lk} (hx : isN x) :
  Gx.Wp (lock_Odds_1 k D x.1 (some ⟨lb, 0, none⟩) h) fun z => z.1 = oddB l x.2 ∧ Keeps h z.2 := by
 have hp : ∃ (r : Lk × Int) (h' : AHeap), lock_Parse k D x.1 h = some (r, h') ∧ Keeps h h' ∧ (∀ b, x.2 = some b → r = (b, 0)) ∧ (x.2 = none → r = ((0, false), 5)) := by
  unfold isN at hx
  cases hx2 : x.2 with
  | some b =>
   rw [hx2] at hx
   obtain ⟨h', e, q⟩ := parse_name (k := k) D g hx.1
   exact ⟨(b, 0), h', by rw [hx.2]; exact e, q, fun b' hb => (by cases hb; rfl), fun hn => (by cases hn)⟩
  | none =>
   rw [hx2] at hx
   obtain ⟨h', e, q⟩ := parse_fo (k := k) D g
   exact ⟨((0, false), 5), h', by rw [hx]; exact e, q, fun b' hb => (by cases hb), fun _ => rfl⟩
 obtain ⟨r, h', e, q, w1, w2⟩ := hp
 simp only [lock_Odds_1]
 have m1 := q.nx
 refine .bnd e (Wp.newE fun h2 e2 k2 n2 g2 => Wp.stL g2 rfl rfl rfl (by decide) fun h3 c3 n3 g3 => ?_)
 have k3 : Keeps h h3 := (q.trans k2).keepsS c3 fun y hy => by have hy : y = h'.next := hy; omega
 have l3 : h3.get lb = some (.cells [.int .i64 l.1, .bool l.2] 46 true 0) := k3.got lt hl
 refine .bnd (sldA_at g3 rfl) (.bnd rfl (.bnd rfl (.bnd (sldI_at l3 rfl) (.bnd (ldB_at g3 rfl) ?_))))
 cases hx2 : x.2 with
 | none =>
  rw [w2 hx2]
  exact .ifn (by simp) (.of ⟨rfl, k3⟩)
 | some b =>
  have wr := w1 b hx2
  have g3' : h3.get h'.next = some (.cells [.int .i64 b.1, .bool b.2] 46 true 0) := by rw [wr] at g3; exact g3
  rw [wr]
  refine .ifp (by simp) ?_
  show Gx.Wp (if (!((b.1 == l.1) && (b.2 == b.2))) = true then _ else _) _
  rw [show (b.2 == b.2) = true from by cases b.2 <;> rfl, Bool.and_true]
  unfold oddB
  by_cases c : (b.1 == l.1) = true
  ·rw [c]
   exact .ifn (by decide) (.of ⟨by show false = (!(b.1 == l.1) && (b.2 || l.2)); rw [c]; rfl, k3⟩)
  ·rw [Bool.eq_false_iff.2 c]
   refine .ifp (by decide) (.bnd (ldB_at g3' rfl) ?_)
   by_cases x2 : b.2 = true
   ·exact .ifp x2 (.of ⟨by show true = (!(b.1 == l.1) && (b.2 || l.2)); rw [Bool.eq_false_iff.2 c, x2]; rfl, k3⟩)
   ·exact .ifn x2 (.bnd rfl (.bnd (ldB_at l3 rfl) (.of ⟨by show l.2 = (!(b.1 == l.1) && (b.2 || l.2)); rw [Bool.eq_false_iff.2 c, Bool.eq_false_iff.2 x2]; simp, k3⟩)))
theorem odd_call {R : Type} {Q : R → Prop} (g : GL h) {l : Lk} {lb : Nat} (hl : h.get lb = some (.cells [.int .i64 l.1, .bool l.2] 46 true 0)) (lt : lb < h.next) {x : ByteArray × Option Lk} (hx : isN x) {κ : Value → AHeap → Option R} {C : CallF} (hC : C = C_slices_IndexFunc_string_string k (DD k))
  (kt : ∀ h', Keeps h h' → Gx.Wp (κ (.bool (oddB l x.2)) h') Q) : Gx.Wp (callD C (.func (.func 29) ⟨[]⟩ ⟨[.pointer (some ⟨lb, 0, none⟩)]⟩) [.string x.1] h κ) Q := by
 subst hC
 show Gx.Wp ((lock_Odds_1 k noC x.1 (some ⟨lb, 0, none⟩) h).bind fun r => κ (.bool r.1) r.2) Q
 refine .call (odd1_spec noC g hl lt hx) fun r ⟨q1, q2⟩ => ?_
 rw [q1]; exact kt _ q2
theorem odds_spec (g : GL h) {l : Lk} {s : Slc} {xs : List (ByteArray × Option Lk)} (R : Row encS h s (xs.map (·.1))) (hx : ∀ x ∈ xs, isN x) (hk : xs.length + 2 ≤ k) (hs : xs.length ≤ 1000) :
  Gx.Wp (lock_Odds k (DD k) l s h) fun z => z.1 = xs.any (fun x => oddB l x.2) ∧ Keeps h z.2 := by
 simp only [lock_Odds, slices_ContainsFunc_string_string, slices_IndexFunc_string_string]
 refine Wp.newE fun h1 e1 k1 n1 g1 => ?_
 suffices hs : Gx.Wp (slices_IndexFunc_string_string k (DD k) s (.func (.func 29) ⟨[]⟩ ⟨[.pointer (some ⟨h.next, 0, none⟩)]⟩) h1) fun z => decide (z.1 ≥ 0) = xs.any (fun x => oddB l x.2) ∧ Keeps h1 z.2 by
  simp only [slices_IndexFunc_string_string] at hs
  refine .call (P := fun z : Bool × AHeap => z.1 = xs.any (fun x => oddB l x.2) ∧ Keeps h1 z.2) (.call hs fun r ⟨q1, q2⟩ => .of ⟨q1, q2⟩) fun r ⟨q1, q2⟩ => .of ⟨q1, k1.trans q2⟩
 simp only [slices_IndexFunc_string_string]
 refine Wp.jn fun j2 h2 => ?_
 unfold slices_IndexFunc_string_string_l0
 obtain ⟨bot, eb⟩ := iterK_of (fun _ _ _ _ _ => none) (slices_IndexFunc_string_string_l0b k (DD k) j2) (show xs.length + 1 ≤ k by omega)
 rw [eb]
 have sl : s.len = xs.length := by have := R.1; simpa using this
 have loop : ∀ (d i : Nat) (H : AHeap), i + d = xs.length → Keeps h1 H → (xs.take i).any (fun x => oddB l x.2) = false →
   Gx.Wp (iterK bot (d + 1) (slices_IndexFunc_string_string_l0b k (DD k) j2) s (.func (.func 29) ⟨[]⟩ ⟨[.pointer (some ⟨h.next, 0, none⟩)]⟩) (s.len : Int) (i : Int) H) fun z => decide (z.1 ≥ 0) = xs.any (fun x => oddB l x.2) ∧ Keeps h1 z.2 := fun d => by
  induction d with
  | zero =>
   intro i H hd kp hf
   rw [iterK_s]; simp only [slices_IndexFunc_string_string_l0b]
   rw [List.take_of_length_le (by omega)] at hf
   refine .ifn (by rw [sl]; simp; omega) ?_
   rw [h2]
   exact .of ⟨by rw [hf]; rfl, kp⟩
  | succ d ih =>
   intro i H hd kp hf
   rw [iterK_s]; simp only [slices_IndexFunc_string_string_l0b]
   obtain ⟨x, hxi⟩ := isome (l := xs) (i := i) (by omega)
   obtain ⟨q, a1, a2⟩ := (R.keeps (k1.trans kp)).ldS (show (xs.map (·.1))[i]? = some x.1 by rw [List.getElem?_map, hxi]; rfl)
   refine .ifp (by rw [sl]; simp; omega) (.bnd a1 (.bnd a2 (odd_call (g.keeps (k1.trans kp)) (kp.got (by omega) g1) (by have := kp.nx; omega) (hx x (mem_of hxi)) rfl fun H' k' => .bnd rfl ?_)))
   have et : xs.take (i + 1) = xs.take i ++ [x] := by rw [List.take_add_one, hxi]; rfl
   cases ho : oddB l x.2 with
   | true =>
    refine .ifp rfl (.of ⟨?_, kp.trans k'⟩)
    rw [List.any_eq_true.2 ⟨x, mem_of hxi, ho⟩]
    simp
   | false =>
    refine .ifn (by decide) ?_
    rw [Gx.w1 (by omega)]
    exact ih (i + 1) H' (by omega) (kp.trans k') (by rw [et, List.any_append, hf]; simp [ho])
 exact loop xs.length 0 h1 (by omega) (Chg.refl _ _) rfl
theorem works23 (D : CallF) (g : GL h) : Gx.Wp (law23_works k D h) fun z => z.1 = true ∧ Keeps h z.2 := by
 simp only [law23_works]
 have e7 : (⟨#[108, 111, 99, 107, 47, 115, 45, 55]⟩ : ByteArray) = nameL (7, false) := by
  unfold nameL digN
  rw [if_neg (by decide), show Lib.decDigits (7 : Int).toNat = [55] from Lib.decDigits_one (i := 7) (by decide)]
  kernel_rfl
 have ok : okL (7, false) := by unfold okL; decide
 rw [e7]
 obtain ⟨h1, e1, k1⟩ := parse_name (k := k) D g ok
 have m1 := k1.nx
 refine .bnd e1 (Wp.newE fun h2 e2 k2 n2 g2 => Wp.stL g2 rfl rfl rfl (by decide) fun h3 c3 n3 g3 => ?_)
 have k3 : Keeps h h3 := (k1.trans k2).keepsS c3 fun y hy => by have hy : y = h1.next := hy; omega
 obtain ⟨h8, e8, k8⟩ := name_spec (k := k) D (g.keeps k3) ok
 refine .ifp (by simp) (.bnd (sldA_at g3 rfl) (.bnd rfl (.ifp (by simp) (.bnd (sldA_at g3 rfl) (.bnd rfl (.bnd e8 (.of ⟨?_, k3.trans k8⟩)))))))
 show (nameL (7, false) == nameL (7, false)) = true
 rw [ba_beq]; simp
theorem back_true (g : GL h) (hk : 100 ≤ k) (a b : Lk) : Gx.Wp (law23_LockBack k (DD k) a b h) fun z => z.1 = true := by
 simp only [law23_LockBack]
 refine Wp.newE fun h1 e1 k1 n1 g1 => Wp.newE fun h2 e2 k2 n2 g2 => .call (works23 (DD k) ((g.keeps k1).keeps k2)) fun r3 ⟨q3, k3⟩ => ?_
 rw [q3]
 refine .ifn (by simp) (Wp.jn fun j8 h8 => ?_)
 have ka : Keeps h1 r3.2 := k2.trans k3
 have m3 := k3.nx
 have A3 : r3.2.get h.next = some (.cells [.int .i64 a.1, .bool a.2] 46 true 0) := ka.got (by omega) g1
 have B3 : r3.2.get h1.next = some (.cells [.int .i64 b.1, .bool b.2] 46 true 0) := k3.got (by omega) g2
 have g3 : GL r3.2 := (g.keeps k1).keeps ka
 have out : ∀ H, Gx.Wp (j8 (some ⟨h.next, 0, none⟩) (some ⟨h1.next, 0, none⟩) true H) fun z => z.1 = true := fun H => by
  rw [h8]
  exact .ifp rfl (.of rfl)
 refine .bnd (sldA_at A3 rfl) (.bnd rfl ?_)
 obtain ⟨h67, e67, k67⟩ := check_spec (k := k) (h := r3.2) (DD k) a
 refine .bnd e67 ?_
 by_cases oa : okL a
 rotate_left
 ·refine .ifp ?_ (out h67)
  show ((if 1 ≤ a.1 ∧ a.1 ≤ 1099511627776 then (0 : Int) else 1) != 0) = true
  rw [if_neg (show ¬ (1 ≤ a.1 ∧ a.1 ≤ 1099511627776) from oa)]; rfl
 refine .ifn ?_ ?_
 ·show ¬ ((if 1 ≤ a.1 ∧ a.1 ≤ 1099511627776 then (0 : Int) else 1) != 0) = true
  rw [if_pos (show 1 ≤ a.1 ∧ a.1 ≤ 1099511627776 from oa)]; decide
 have B67 := k67.got (by omega) B3
 obtain ⟨h70, e70, k70⟩ := check_spec (k := k) (h := h67) (DD k) b
 refine .bnd (sldA_at B67 rfl) (.bnd rfl (.bnd e70 ?_))
 dsimp only
 by_cases ob : okL b
 rotate_left
 ·rw [show ((if 1 ≤ b.1 ∧ b.1 ≤ 1099511627776 then (0 : Int) else 1) != 0) = true from by rw [if_neg (show ¬ (1 ≤ b.1 ∧ b.1 ≤ 1099511627776) from ob)]; rfl]
  exact out h70
 rw [show ((if 1 ≤ b.1 ∧ b.1 ≤ 1099511627776 then (0 : Int) else 1) != 0) = false from by rw [if_pos (show 1 ≤ b.1 ∧ b.1 ≤ 1099511627776 from ob)]; rfl, h8]
 dsimp only
 have kk : Keeps r3.2 h70 := k67.trans k70
 have m70 := kk.nx
 have A70 := kk.got (by omega) A3
 have B70 := kk.got (by omega) B3
 have g70 := g3.keeps kk
 obtain ⟨h12, e12, k12⟩ := name_spec (k := k) (h := h70) (DD k) g70 oa
 obtain ⟨h13, e13, k13⟩ := parse_name (k := k) (h := h12) (DD k) (g70.keeps k12) oa
 refine .ifn (by decide) (.bnd rfl (.bnd (sldA_at A70 rfl) (.bnd rfl (.bnd e12 (.bnd e13 (Wp.newE fun h14 e14 k14 n14 g14 => Wp.stL g14 rfl rfl rfl (by decide) fun h15 c15 n15 g15 => Wp.jn fun j22 h22 => ?_))))))
 have m12 := k12.nx
 have m13 := k13.nx
 have k15 : Keeps h70 h15 := ((k12.trans k13).trans k14).keepsS c15 fun y hy => by have hy : y = h13.next := hy; omega
 have n15' : h15.next = h13.next + 1 := by have : h14.next = h13.next + 1 := n14; omega
 have A15 := k15.got (by omega) A70
 have B15 := k15.got (by omega) B70
 have X15 : h15.get h13.next = some (.cells [.int .i64 a.1, .bool a.2] 46 true 0) := g15
 have g15' := g70.keeps k15
 obtain ⟨od, eod⟩ : ∃ od : Bool, od = (!(a.1 == b.1) && (a.2 || b.2)) := ⟨_, rfl⟩
 have fin : Gx.Wp (j22 (some ⟨h.next, 0, none⟩) (some ⟨h1.next, 0, none⟩) (some ⟨h13.next, 0, none⟩) 0 od h15) fun z => z.1 = true := by
  rw [h22]
  dsimp only
  refine .ifp (by decide) (.bnd rfl (.bnd (sldA_at X15 rfl) (.bnd rfl (.bnd rfl (.bnd (sldA_at A15 rfl) (.bnd rfl (.ifp (by simp) (.bnd rfl (.bnd (sldA_at B15 rfl) (.bnd rfl ?_))))))))))
  obtain ⟨h32, e32, k32⟩ := name_spec (k := k) (h := h15) (DD k) g15' ob
  have m32 := k32.nx
  refine .bnd e32 (Wp.newE fun h33 e33 k33 n33 g33 => ?_)
  have n33' : h33.next = h32.next + 1 := n33
  have k1533 : Keeps h15 h33 := k32.trans k33
  have A32 := k32.got (by omega) A15
  have A33 := k1533.got (by omega) A15
  refine .bnd rfl (.bnd (sldA_at A33 rfl) (.gp (fun HH hH => ?_) (.bnd rfl ?_)))
  ·simp only [List.mem_cons, List.not_mem_nil, or_false] at hH
   rcases hH with z | z
   ·rw [z]; exact bnd rfl (bnd (sldA_at A32 rfl) rfl)
   ·rw [z]; exact bnd rfl (bnd (sldA_at A15 rfl) rfl)
  have R33 : Row encS h33 ⟨some ⟨h32.next, 0, some 0⟩, 2, 2⟩ (([(foN, none), (nameL b, some b)] : List (ByteArray × Option Lk)).map (·.1)) := Row.of_block (enc := encS) (xs := [foN, nameL b]) g33 (by omega) fun i z hz => by
   match i with
   | 0 => simp at hz; subst hz; rfl
   | 1 => simp at hz; subst hz; rfl
   | i + 2 => simp at hz
  refine .call (odds_spec (l := a) (g15'.keeps k1533) R33 (fun x hx => ?_) (by simp; omega) (by simp)) fun r40 ⟨q40, k40⟩ => ?_
  ·simp only [List.mem_cons, List.not_mem_nil, or_false] at hx
   rcases hx with rfl | rfl
   ·exact rfl
   ·exact ⟨ob, rfl⟩
  rw [q40]
  have o1 : ([(foN, none), (nameL b, some b)] : List (ByteArray × Option Lk)).any (fun x => oddB a x.2) = od := by
   rw [eod]
   simp only [List.any_cons, List.any_nil, oddB, Bool.false_or, Bool.or_false]
   rw [Bool.or_comm b.2 a.2, show (b.1 == a.1) = (a.1 == b.1) from by rw [Bool.eq_iff_iff]; simp only [beq_iff_eq]; exact eq_comm]
  rw [o1]
  have k1540 : Keeps h15 r40.2 := k1533.trans k40
  have m40 := k1540.nx
  have A40 := k1540.got (by omega) A15
  have B40 := k1540.got (by omega) B15
  refine .ifp (by simp) (.bnd rfl (.bnd (sldA_at A40 rfl) (.bnd rfl ?_)))
  obtain ⟨h44, e44, k44⟩ := name_spec (k := k) (h := r40.2) (DD k) (g15'.keeps k1540) oa
  have m44 := k44.nx
  refine .bnd e44 (Wp.newE fun h45 e45 k45 n45 g45 => ?_)
  have n45' : h45.next = h44.next + 1 := n45
  have k4045 : Keeps r40.2 h45 := k44.trans k45
  have B44 := k44.got (by omega) B40
  have B45 := k4045.got (by omega) B40
  refine .bnd rfl (.bnd (sldA_at B45 rfl) (.gp (fun HH hH => ?_) (.bnd rfl ?_)))
  ·simp only [List.mem_cons, List.not_mem_nil, or_false] at hH
   rcases hH with z | z
   ·rw [z]; exact bnd rfl (bnd (sldA_at B44 rfl) rfl)
   ·rw [z]; exact bnd rfl (bnd (sldA_at B40 rfl) rfl)
  have R45 : Row encS h45 ⟨some ⟨h44.next, 0, some 0⟩, 1, 1⟩ (([(nameL a, some a)] : List (ByteArray × Option Lk)).map (·.1)) := Row.of_block (enc := encS) (xs := [nameL a]) g45 (by omega) fun i z hz => by
   match i with
   | 0 => simp at hz; subst hz; rfl
   | i + 1 => simp at hz
  have g45' := (g15'.keeps k1540).keeps k4045
  refine .call (odds_spec (l := b) g45' R45 (fun x hx => ?_) (by simp; omega) (by simp)) fun r52 ⟨q52, k52⟩ => ?_
  ·rw [List.mem_singleton.1 hx]; exact ⟨oa, rfl⟩
  rw [q52]
  have o2 : ([(nameL a, some a)] : List (ByteArray × Option Lk)).any (fun x => oddB b x.2) = od := by
   rw [eod]
   simp only [List.any_cons, List.any_nil, oddB, Bool.or_false]
  rw [o2]
  have k1552 : Keeps h15 r52.2 := (k1540.trans k4045).trans k52
  have A52 := k1552.got (by omega) A15
  refine .ifp (by simp) (.bnd rfl (.bnd (sldA_at A52 rfl) (.bnd rfl ?_)))
  refine .call (odds_spec (l := a) (xs := []) (g15'.keeps k1552) (Row.nil _ _ _ _) (fun x hx => (List.not_mem_nil hx).elim) (by simp; omega) (by simp)) fun r56 ⟨q56, _⟩ => ?_
  rw [q56]
  exact .of rfl
 refine .bnd rfl (.bnd (sldI_at A15 rfl) (.bnd rfl (.bnd (sldI_at B15 rfl) ?_)))
 by_cases c : a.1 = b.1
 ·refine .ifn (by simp [c]) ?_
  rw [show od = false from by rw [eod, c]; simp] at fin
  exact fin
 ·refine .ifp (by simp [c]) (.bnd rfl (.bnd (ldB_at A15 rfl) ?_))
  have hc : (a.1 == b.1) = false := by simp [c]
  by_cases x : a.2 = true
  ·rw [show od = true from by rw [eod, hc, x]; rfl] at fin
   exact .ifp x fin
  ·rw [show od = b.2 from by rw [eod, hc, Bool.eq_false_iff.2 x]; simp] at fin
   exact .ifn x (.bnd rfl (.bnd (ldB_at B15 rfl) fin))
theorem back_T (hk : 100 ≤ k) (g : GL h) (a b : Lk) : ∃ h', law23_LockBack k (DD k) a b h = some (true, h') := by
 obtain ⟨⟨r, h'⟩, e, q⟩ := back_true g hk a b
 obtain rfl : r = true := q
 exact ⟨h', e⟩
end
end Gl
