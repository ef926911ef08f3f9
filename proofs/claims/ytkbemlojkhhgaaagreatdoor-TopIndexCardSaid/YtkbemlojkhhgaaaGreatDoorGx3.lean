import Derived.Laws.BitsLemmas
import Derived.Below
import Derived.Lib.Repeat
import Derived.Lib.Join
import Derived.Sort.KeysCollected
import Derived.Lib.Overlaps
import Derived.Lib.Builder
import Derived.RangeFuncRecord
import Derived.Sort.Grow
import Derived.SizedLaws
import Derived.SliceStrings
import Derived.ChangeSlices
import Derived.ChangeOld
import Derived.Carry
import Derived.OpenShut
import Derived.ShutString
import Derived.DataReads
import Derived.ChangeBears2
import Derived.MakeChecks
import Derived.Shelf.Strconv.Itoa3
import Derived.Lib.AtoiErrMem
import Derived.Lib.LaidTab
import Derived.Lib.Atoi
import Derived.Stop.LaidErr
import Derived.Test.YtkbemlojkhhgaaaGreatDoorGx2
namespace Gx
open Go
section
variable {G : Nat} {P : Program} {R : Type} {r : R} {C : za_}
structure OnceC where
 id : FuncId
 ro0 : List RO
 ro1 : List RO
 g1 : FuncId
 a1 : List Operand
 ro2 : List RO
 t : Nat
 ro3 : List RO
 g2 : FuncId
 a2 : List Operand
 ro4 : List RO
structure OnceFits (P : Program) (G : Nat) (fn : Func) (o : OnceC) : Prop where
 ex : ∃ (i0 i1 i2 i3 i4 : Nat) (p0 p1 p2 p3 p4 : Array Oper) (pre1 pre3 : List Oper) (d1 d3 : Oper) (b1 b3 : Array Operand) (t1 t3 : Array TypeId),
  fn.body = some (.seq (.region i0 p0 false) (.seq (.region i1 p1 false) (.seq (.region i2 p2 false) (.cond (.tmp o.t) (.seq (.region i3 p3 false) (.region i4 p4 false)) .skip)))) ∧
  zBh_ P G fn.ntmps p0 p0.toList = some (o.ro0.map zwc_) ∧ zBh_ P G fn.ntmps p2 p2.toList = some (o.ro2.map zwc_) ∧ zBh_ P G fn.ntmps p4 p4.toList = some (o.ro4.map zwc_) ∧
  p1.toList = pre1 ++ [d1] ∧ d1.op = .defer ⟨.value (.func o.g1), b1, t1⟩ ∧ d1.guard = none ∧ d1.dst = none ∧ zBh_ P G fn.ntmps p1 pre1 = some (o.ro1.map zwc_) ∧ opsG G b1.toList = true ∧ b1.toList = o.a1 ∧
  p3.toList = pre3 ++ [d3] ∧ d3.op = .defer ⟨.value (.func o.g2), b3, t3⟩ ∧ d3.guard = none ∧ d3.dst = none ∧ zBh_ P G fn.ntmps p3 pre3 = some (o.ro3.map zwc_) ∧ opsG G b3.toList = true ∧ b3.toList = o.a2
end
theorem bx (k : IntKind) (j : Nat) (hj : j ≤ k.bits) (hk : ∀ n : Int, 0 ≤ n → n < 2 ^ j → k.wrap n = n) (a b : Nat) (ha : a < 2 ^ j) (hb : b < 2 ^ j) :
  Go.bits .xor k a b = ((a ^^^ b : Nat) : Int) := by
 have hp : 2 ^ j ≤ 2 ^ k.bits := Nat.pow_le_pow_right (by decide) hj
 have ha' : a % 2 ^ k.bits = a := Nat.mod_eq_of_lt (Nat.lt_of_lt_of_le ha hp)
 have hb' : b % 2 ^ k.bits = b := Nat.mod_eq_of_lt (Nat.lt_of_lt_of_le hb hp)
 have cast : ∀ n : Nat, n < 2 ^ j → ((n : Nat) : Int) < 2 ^ j := fun n h => by exact_mod_cast h
 simp only [bits, BitVec.ofInt_natCast, BitVec.toNat_xor, BitVec.toNat_ofNat, ha', hb']
 exact hk _ (Int.natCast_nonneg _) (cast _ (Nat.xor_lt_two_pow ha hb))
theorem ztA_ (n : Int) (h₀ : 0 ≤ n) (h₁ : n < 2 ^ 63) : IntKind.i64.wrap n = n := by rw [Go.IntKind.wrap_i64]; omega
theorem zlC_ (b i : Nat) (hi : i ≤ 64) : Int.fdiv (b : Int) (2 ^ (min (i : Int).toNat (IntKind.bits .i64))) = ((b / 2 ^ i : Nat) : Int) := by
 have : min (i : Int).toNat (IntKind.bits .i64) = i := by
  show min i 64 = i
  omega
 rw [this, Int.fdiv_eq_ediv_of_nonneg _ (Int.pow_nonneg (by decide))]
 simp
theorem bnd {α β : Type} {x : Option α} {f : α → Option β} {v : α} {r : Option β} (h : x = some v) (k : f v = r) : x.bind f = r := by rw [h]; exact k
theorem jn {α R : Type} {j : α} {b : α → R} {r : R} (k : b j = r) : zm_ j b = r := k
theorem ifp {α : Type} {c : Prop} [Decidable c] {a b r : α} (h : c) (k : a = r) : (if c then a else b) = r := by rw [if_pos h]; exact k
theorem ifn {α : Type} {c : Prop} [Decidable c] {a b r : α} (h : ¬ c) (k : b = r) : (if c then a else b) = r := by rw [if_neg h]; exact k
theorem gp {R : Type} {p : Prop} {x r : Option R} (h : p) (k : x = r) : zR_ p x = r := by rw [zRk_ h]; exact k
theorem zLs_ {α : Type} (bot : α) (b : α → α) (n : Nat) : ∀ m, zi_ bot (m + n) b = zi_ (zi_ bot n b) m b
 | 0 => by rw [Nat.zero_add]; rfl
 | m + 1 => by rw [Nat.succ_add]; simp only [zi_]; rw [zLs_ bot b n m]
theorem zq_ {α : Type} (bot : α) (b : α → α) {k m : Nat} (h : m ≤ k) : ∃ bot', zi_ bot k b = zi_ bot' m b := by
 obtain ⟨n, rfl⟩ : ∃ n, k = m + n := ⟨k - m, by omega⟩
 exact ⟨_, zLs_ bot b n m⟩
theorem zg_ {α : Type} (bot : α) (b : α → α) (m : Nat) : zi_ bot (m + 1) b = b (zi_ bot m b) := rfl
theorem w64 (x : Int) (h : -9223372036854775808 ≤ x ∧ x < 9223372036854775808) : IntKind.wrap .i64 x = x := by
 rw [Go.IntKind.wrap_i64]; omega
theorem w8 (x : Int) (h : 0 ≤ x ∧ x < 256) : IntKind.wrap .u8 x = x := by
 rw [Go.IntKind.wrap_u8]; omega
structure Chg (S : Nat → Prop) (h h' : AHeap) : Prop where
 nx : h.next ≤ h'.next
 oth : ∀ x, x < h.next → ¬ S x → h'.get x = h.get x
theorem Chg.refl (S : Nat → Prop) (h : AHeap) : Chg S h h := ⟨Nat.le_refl _, fun _ _ _ => rfl⟩
theorem Chg.trans {S : Nat → Prop} {h h1 h2 : AHeap} (a : Chg S h h1) (c : Chg S h1 h2) : Chg S h h2 :=
 ⟨Nat.le_trans a.nx c.nx, fun x hx hs => (c.oth x (Nat.lt_of_lt_of_le hx a.nx) hs).trans (a.oth x hx hs)⟩
theorem Chg.new {S : Nat → Prop} (h : AHeap) (B : ABlk) : Chg S h (h.new B) := ⟨by simp, fun x hx _ => by simp; omega⟩
theorem Chg.set {S : Nat → Prop} {h : AHeap} {b : Nat} {B : ABlk} (hb : h.next ≤ b ∨ S b) : Chg S h (h.set b B) :=
 ⟨by simp, fun x hx hs => by
  simp only [AHeap.get_set]
  rw [if_neg]
  rintro rfl
  rcases hb with hb | hb
  ·omega
  ·exact hs hb⟩
theorem Chg.wk {S T : Nat → Prop} {h h' : AHeap} (a : Chg S h h') (st : ∀ x, x < h.next → S x → T x) : Chg T h h' := ⟨a.nx, fun x hx ht => a.oth x hx fun hs => ht (st x hx hs)⟩
theorem Chg.beh {S T : Nat → Prop} {h h1 h2 : AHeap} (a : Chg S h h1) (c : Chg T h1 h2) (st : ∀ x, x < h.next → T x → S x) : Chg S h h2 :=
 ⟨Nat.le_trans a.nx c.nx, fun x hx hs => (c.oth x (Nat.lt_of_lt_of_le hx a.nx) fun ht => hs (st x hx ht)).trans (a.oth x hx hs)⟩
def NoB (_ : Nat) : Prop := False
abbrev zc_ (h h' : AHeap) : Prop := Chg NoB h h'
theorem zc_.new (h : AHeap) (B : ABlk) : zc_ h (h.new B) := Chg.new h B
theorem Chg.keeps {S : Nat → Prop} {h h' : AHeap} (a : zc_ h h') : Chg S h h' := a.wk fun _ _ f => False.elim f
theorem zXC_ (h : AHeap) (b : Nat) (B C : ABlk) : (h.set b B).set b C = h.set b C := by
 simp only [AHeap.set, AHeap.mk.injEq, true_and]
 funext x
 by_cases e : x = b <;> simp [e]
theorem zeB_ {h : AHeap} {b : Nat} {B : ABlk} (hb : h.get b = some B) : h.set b B = h := by
 obtain ⟨n, g⟩ := h
 simp only [AHeap.set, AHeap.mk.injEq, true_and] at hb ⊢
 funext x
 by_cases e : x = b
 ·simp [e, hb]
 ·simp [e]
theorem zpc_ {h : AHeap} {b o : Nat} {sp : Option Nat} {c : List Value} {e : TypeId} {v : Value} (hb : h.get b = some (.cells c e true 0)) (ho : o < c.length) (hv : one v = true) : st1 ⟨b, o, sp⟩ v h = some (h.set b (.cells (c.set o v) e true 0)) := by
 simp [st1, AHeap.wr1, hb, ho, hv]
def Row {α : Type} (enc : α → Value) (h : AHeap) (s : Slc) (xs : List α) : Prop :=
 s.len = xs.length ∧ ∀ i x, xs[i]? = some x → ∃ a c e r fz, s.a = some a ∧ a.block < h.next ∧ h.get a.block = some (.cells c e r fz) ∧ c[a.off + i]? = some (enc x)
def encI (x : Int) : Value := .int .i64 x
def encS (s : ByteArray) : Value := .string s
def encB (b : UInt8) : Value := .int .u8 (b.toNat : Int)
section
variable {α : Type} {enc : α → Value} {h h' : AHeap} {s : Slc} {xs : List α}
theorem Row.nil (enc : α → Value) (h : AHeap) (a : Option Addr) (cap : Nat) : Row enc h ⟨a, 0, cap⟩ [] := ⟨rfl, fun i x hx => by simp at hx⟩
theorem Row.rd (R : Row enc h s xs) {i : Nat} {x : α} (hx : xs[i]? = some x) : ∃ q, idxL 1 s (i : Int) = some q ∧ h.rd1 q.block q.off = some (enc x) ∧ q.block < h.next ∧ ∃ a, s.a = some a ∧ a.block = q.block := by
 obtain ⟨a, c, e, r, fz, h1, h2, h3, h4⟩ := R.2 i x hx
 have hi : i < xs.length := (List.getElem?_eq_some_iff.1 hx).1
 refine ⟨⟨a.block, a.off + i * 1, none⟩, ?_, ?_, h2, a, h1, rfl⟩
 ·simp only [idxL, h1]
  rw [if_pos (by rw [R.1]; omega)]
  simp
 ·simp only [AHeap.rd1, h3, Nat.mul_one]
  exact h4
theorem Row.chg {S : Nat → Prop} (R : Row enc h s xs) (c : Chg S h h') (hs : ∀ a, s.a = some a → ¬ S a.block) : Row enc h' s xs :=
 ⟨R.1, fun i x hx => by
  obtain ⟨a, cc, e, r, fz, h1, h2, h3, h4⟩ := R.2 i x hx
  exact ⟨a, cc, e, r, fz, h1, Nat.lt_of_lt_of_le h2 c.nx, by rw [c.oth _ h2 (hs a h1)]; exact h3, h4⟩⟩
theorem Row.keeps (R : Row enc h s xs) (c : zc_ h h') : Row enc h' s xs := R.chg c fun _ _ f => f
theorem Row.of_block {b o : Nat} {sp : Option Nat} {cap : Nat} {c : List Value} {e : TypeId} {r : Bool} {fz : Nat} (hb : h.get b = some (.cells c e r fz)) (hn : b < h.next)
  (hc : ∀ i x, xs[i]? = some x → c[o + i]? = some (enc x)) : Row enc h ⟨some ⟨b, o, sp⟩, xs.length, cap⟩ xs :=
 ⟨rfl, fun i x hx => ⟨_, c, e, r, fz, rfl, hn, hb, hc i x hx⟩⟩
end
theorem Row.ldI {h : AHeap} {s : Slc} {xs : List Int} (R : Row encI h s xs) {i : Nat} {x : Int} (hx : xs[i]? = some x) : ∃ q, idxL 1 s (i : Int) = some q ∧ Gx.ldI .i64 q h = some x := by
 obtain ⟨q, h1, h2, _⟩ := R.rd hx
 exact ⟨q, h1, by simp [Gx.ldI, h2, encI, decI]⟩
theorem Row.ldS {h : AHeap} {s : Slc} {xs : List ByteArray} (R : Row encS h s xs) {i : Nat} {x : ByteArray} (hx : xs[i]? = some x) : ∃ q, idxL 1 s (i : Int) = some q ∧ Gx.ldS q h = some x := by
 obtain ⟨q, h1, h2, _⟩ := R.rd hx
 exact ⟨q, h1, by simp [Gx.ldS, h2, encS, decS]⟩
theorem Row.ldB {h : AHeap} {s : Slc} {xs : List UInt8} (R : Row encB h s xs) {i : Nat} {x : UInt8} (hx : xs[i]? = some x) : ∃ q, idxL 1 s (i : Int) = some q ∧ Gx.ldI .u8 q h = some (x.toNat : Int) := by
 obtain ⟨q, h1, h2, _⟩ := R.rd hx
 exact ⟨q, h1, by simp [Gx.ldI, h2, encB, decI]⟩
def bl (s : ByteArray) : List UInt8 := s.data.toList
theorem zh_ (s : ByteArray) : (bl s).length = s.size := by simp [bl]
theorem zSf_ {s t : ByteArray} (h : bl s = bl t) : s = t := by
 cases s; cases t; simp [bl] at h; rw [h]
theorem zre_ (l : List UInt8) : bl ⟨⟨l⟩⟩ = l := rfl
theorem zXb_ (l : List UInt8) : (⟨⟨l⟩⟩ : ByteArray).size = l.length := by rw [← zh_]; rfl
theorem zof_ {s : ByteArray} {i : Nat} {x : UInt8} (hx : (bl s)[i]? = some x) : idxS s (i : Int) = some (x.toNat : Int) := by
 have hi : i < s.size := by rw [← zh_]; exact (List.getElem?_eq_some_iff.1 hx).1
 simp only [idxS]
 rw [if_pos (by omega)]
 have : s[(i : Int).toNat]? = some x := by
  rw [Int.toNat_natCast]
  rw [getElem?_pos s i hi]
  have h2 := (List.getElem?_eq_some_iff.1 hx).2
  rw [← h2]; rfl
 rw [this]; rfl
theorem zJk_ (s : ByteArray) : zM_ s = (bl s).map encB := rfl
theorem zHp_ (l : List UInt8) : zEe_ (l.map encB) = some l := by
 induction l with
 | nil => rfl
 | cons x l ih =>
  rw [List.map_cons]
  show (match zEe_ (l.map encB) with | some t => some (UInt8.ofNat (x.toNat : Int).toNat :: t) | none => none) = _
  rw [ih]
  simp
theorem zai_ {h : AHeap} {b : Nat} {c : List Value} {e : TypeId} {r : Bool} {fz : Nat} (hb : h.get b = some (.cells c e r fz)) : h.rdL b 0 c.length = some c := by
 unfold AHeap.rdL
 cases hc : c.length with
 | zero => simp at hc; subst hc; rfl
 | succ n => simp only [hb]; rw [if_pos (by omega), List.drop_zero, ← hc, List.take_length]
theorem zud_ {h : AHeap} {b : Nat} {l : List UInt8} {e : TypeId} {r : Bool} {fz cap : Nat} {sp : Option Nat} (hb : h.get b = some (.cells (l.map encB) e r fz)) :
  zeb_ h ⟨some ⟨b, 0, sp⟩, l.length, cap⟩ = some ⟨⟨l⟩⟩ := by
 have := zai_ hb
 rw [List.length_map] at this
 simp only [zeb_, this, Option.bind_some, zHp_]
theorem zgu_ {b i n cap : Nat} {sp : Option Nat} (hi : i < n) : idxL 1 ⟨some ⟨b, 0, sp⟩, n, cap⟩ (i : Int) = some ⟨b, i, none⟩ := by
 simp only [idxL]
 rw [if_pos (by omega)]
 simp
theorem zfD_ {h : AHeap} {b i : Nat} {sp : Option Nat} {l : List UInt8} {e : TypeId} {x : Nat} (hb : h.get b = some (.cells (l.map encB) e true 0)) (hi : i < l.length) (hx : x < 256) :
  st1 ⟨b, i, sp⟩ (.int .u8 (x : Int)) h = some (h.set b (.cells ((l.set i (UInt8.ofNat x)).map encB) e true 0)) := by
 rw [zpc_ hb (by simpa using hi) rfl]
 congr 4
 rw [List.map_set]
 congr 1
 simp only [encB]
 congr 1
 rw [UInt8.toNat_ofNat_of_lt' (by simpa using hx)]
theorem zMC_ {h : AHeap} {b i : Nat} {sp : Option Nat} {l : List UInt8} {e : TypeId} {r : Bool} {fz : Nat} {x : UInt8} (hb : h.get b = some (.cells (l.map encB) e r fz)) (hx : l[i]? = some x) :
  ldI .u8 ⟨b, i, sp⟩ h = some (x.toNat : Int) := by
 simp [ldI, AHeap.rd1, hb, hx, encB, decI]
theorem zOp_ (n : Nat) : zu_ n [.int .u8 0] = (List.replicate n (0 : UInt8)).map encB := by
 simp [zu_, encB]
def outB {α : Type} (enc : α → Value) (e : TypeId) (l : List α) : ABlk := .cells (l.map enc) e true 0
theorem zOe_ (x y : ByteArray) : (x == y) = decide (x = y) := by
 cases x with | mk a => cases y with | mk b =>
 show (a == b) = _
 rw [Bool.eq_iff_iff]
 simp
theorem zv_ {α : Type} {l : List α} {i : Nat} (h : i < l.length) : ∃ x, l[i]? = some x := ⟨l[i], by simp [h]⟩
theorem zam_ {α : Type} {l : List α} {i : Nat} {x : α} (h : l[i]? = some x) : ∃ hi : i < l.length, l[i] = x := List.getElem?_eq_some_iff.1 h
theorem zll_ {α : Type} {l : List α} {i : Nat} {x : α} (h : l[i]? = some x) : x ∈ l := List.mem_of_getElem? h
theorem zKd_ {α : Type} {l : List α} {i : Nat} {x : α} (h : l[i]? = some x) : l.drop i = x :: l.drop (i + 1) := by
 obtain ⟨hi, rfl⟩ := zam_ h
 exact List.drop_eq_getElem_cons hi
theorem w1 {i : Nat} (h : i < 9223372036854775807) : IntKind.wrap .i64 ((i : Int) + 1) = ((i + 1 : Nat) : Int) := by rw [w64 _ (by omega)]; omega
theorem Row.rdS {α : Type} {enc : α → Value} {h : AHeap} {s : Slc} {xs : List α} (R : Row enc h s xs) : Gx.rdS 1 s h = some (xs.map enc) := by
 unfold Gx.rdS
 cases hx : xs with
 | nil =>
  have h0 : s.len = 0 := by rw [R.1, hx]; rfl
  cases s.a with
  | none => rfl
  | some a => simp [h0, AHeap.rdL]
 | cons x t =>
  obtain ⟨a, c, e, r, fz, h1, h2, h3, h4⟩ := R.2 0 x (by rw [hx]; rfl)
  rw [h1]
  simp only [R.1, hx, List.length_cons, Nat.mul_one, AHeap.rdL, h3]
  have all : ∀ i y, xs[i]? = some y → c[a.off + i]? = some (enc y) := fun i y hy => by
   obtain ⟨a', c', e', r', fz', h1', h2', h3', h4'⟩ := R.2 i y hy
   rw [h1] at h1'; cases h1'
   rw [h3] at h3'; cases h3'
   exact h4'
  have hlen : a.off + xs.length ≤ c.length := by
   obtain ⟨y, hy⟩ := zv_ (l := xs) (i := xs.length - 1) (by rw [hx]; simp)
   have := (List.getElem?_eq_some_iff.1 (all _ _ hy)).1
   rw [hx] at this ⊢
   simp at this ⊢
   omega
  rw [if_pos (by rw [hx] at hlen; exact hlen)]
  congr 1
  rw [← hx]
  apply List.ext_getElem?
  intro i
  rw [List.getElem?_take, List.getElem?_drop, List.getElem?_map]
  have hl : t.length + 1 = xs.length := by rw [hx]; rfl
  rw [hl]
  by_cases hi : i < xs.length
  ·obtain ⟨y, hy⟩ := zv_ hi
   rw [if_pos hi, all i y hy, hy]
   rfl
  ·rw [if_neg hi]; simp [hi]
theorem zpm_ {α : Type} {enc : α → Value} (ho : ∀ x, one (enc x) = true) : ∀ xs : List α, zI_ (xs.map enc) = true
 | [] => rfl
 | x :: t => by simp [zI_, ho, zpm_ ho t]
structure Grown {α : Type} (enc : α → Value) (e : TypeId) (h : AHeap) (b : Nat) (s : Slc) (xs : List α) : Prop where
 s : s = ⟨some ⟨b, 0, some 2⟩, xs.length, xs.length⟩
 blk : h.get b = some (outB enc e xs)
 ne : xs ≠ []
theorem Grown.append {α : Type} {enc : α → Value} {e : TypeId} {h : AHeap} {b bytes : Nat} {s : Slc} {xs ys : List α} (g : Grown enc e h b s xs) (ho : ∀ x, one (enc x) = true) (hy : ys ≠ []) (hs : 2 * (xs.length + ys.length) * bytes ≤ 281474976710656) (h1 : 1 ≤ bytes) :
  zl_ 1 bytes e h s (ys.map enc) ys.length = some (⟨some ⟨h.next, 0, some 2⟩, (xs ++ ys).length, (xs ++ ys).length⟩, (h.kill b).new (outB enc e (xs ++ ys))) := by
 obtain ⟨rfl, hb, hx⟩ := g
 have l1 : xs.length ≠ 0 := fun e => hx (List.length_eq_zero_iff.1 e)
 have l2 : ys.length ≠ 0 := fun e => hy (List.length_eq_zero_iff.1 e)
 unfold zl_
 rw [if_neg (by simp; omega), if_pos ⟨by simpa using hs, h1⟩]
 simp only [outB] at hb
 simp only [hb]
 rw [if_pos (by simp [zpm_ ho ys, l1])]
 simp [outB, List.take_of_length_le]
theorem Grown.of {α : Type} {enc : α → Value} {e : TypeId} {h : AHeap} {xs : List α} (hx : xs ≠ []) : Grown enc e (h.new (outB enc e xs)) h.next ⟨some ⟨h.next, 0, some 2⟩, xs.length, xs.length⟩ xs := ⟨rfl, by simp, hx⟩
theorem Grown.row {α : Type} {enc : α → Value} {e : TypeId} {h : AHeap} {b : Nat} {s : Slc} {xs : List α} (g : Grown enc e h b s xs) (hb : b < h.next) : Row enc h s xs := by
 obtain ⟨rfl, hg, hx⟩ := g
 exact Row.of_block hg hb fun i x hi => by rw [Nat.zero_add, List.getElem?_map, hi]; rfl
theorem Grown.chg {α : Type} {S : Nat → Prop} {enc : α → Value} {e : TypeId} {h h' : AHeap} {b : Nat} {s : Slc} {xs : List α} (g : Grown enc e h b s xs) (hb : b < h.next) (c : Chg S h h') (hs : ¬ S b) : Grown enc e h' b s xs :=
 ⟨g.s, by rw [c.oth b hb hs]; exact g.blk, g.ne⟩
theorem Chg.kill_new {S : Nat → Prop} {h : AHeap} {b : Nat} {B : ABlk} (hb : h.next ≤ b ∨ S b) : Chg S h ((h.kill b).new B) :=
 ⟨by simp, fun x hx hs => by
  show (if x = h.next then some B else if x = b then none else h.get x) = h.get x
  rw [if_neg (by omega), if_neg]
  rintro rfl
  rcases hb with hb | hb
  ·omega
  ·exact hs hb⟩
structure Acc {α : Type} (enc : α → Value) (e : TypeId) (base : Nat) (h : AHeap) (s : Slc) (xs : List α) : Prop where
 st : (s = ⟨none, 0, 0⟩ ∧ xs = []) ∨ ∃ b, Grown enc e h b s xs
 lt : ∀ a, s.a = some a → a.block < h.next ∧ base ≤ a.block
theorem Acc.nil {α : Type} (enc : α → Value) (e : TypeId) (base : Nat) (h : AHeap) : Acc enc e base h ⟨none, 0, 0⟩ [] := ⟨.inl ⟨rfl, rfl⟩, fun a ha => by cases ha⟩
def ofS (s : Slc) (y : Nat) : Prop := ∃ a, s.a = some a ∧ y = a.block
theorem Acc.chg {α : Type} {S : Nat → Prop} {enc : α → Value} {e : TypeId} {base : Nat} {h h' : AHeap} {s : Slc} {xs : List α} (A : Acc enc e base h s xs) (c : Chg S h h') (hs : ∀ a, s.a = some a → ¬ S a.block) : Acc enc e base h' s xs := by
 refine ⟨A.st.imp id ?_, fun a ha => ⟨Nat.lt_of_lt_of_le (A.lt a ha).1 c.nx, (A.lt a ha).2⟩⟩
 rintro ⟨b, g⟩
 have hb := A.lt ⟨b, 0, some 2⟩ (by rw [g.s])
 exact ⟨b, g.chg hb.1 c (hs ⟨b, 0, some 2⟩ (by rw [g.s]))⟩
theorem Acc.keeps {α : Type} {enc : α → Value} {e : TypeId} {base : Nat} {h h' : AHeap} {s : Slc} {xs : List α} (A : Acc enc e base h s xs) (c : zc_ h h') : Acc enc e base h' s xs := A.chg c fun _ _ f => f
theorem Acc.row {α : Type} {enc : α → Value} {e : TypeId} {base : Nat} {h : AHeap} {s : Slc} {xs : List α} (A : Acc enc e base h s xs) : Row enc h s xs := by
 rcases A.st with ⟨rfl, rfl⟩ | ⟨b, g⟩
 ·exact Row.nil _ _ _ _
 ·exact g.row (A.lt ⟨b, 0, some 2⟩ (by rw [g.s])).1
theorem zis_ {h : AHeap} {v : Value} {e : TypeId} : Gx.rdS 1 (⟨some ⟨h.next, 0, some 0⟩, 1, 1⟩ : Slc) (h.new (.cells [v] e true 0)) = some [v] := by
 have := zai_ (h := h.new (.cells [v] e true 0)) (b := h.next) (c := [v]) (e := e) (r := true) (fz := 0) (by simp)
 simpa [Gx.rdS] using this
theorem Acc.push {α : Type} {enc : α → Value} {e : TypeId} {base bytes : Nat} {h : AHeap} {s : Slc} {xs : List α} (A : Acc enc e base h s xs) (ho : ∀ x, one (enc x) = true) (x : α) (hs : 2 * (xs.length + 1) * bytes ≤ 281474976710656) (h1 : 1 ≤ bytes) (hbase : base ≤ h.next) :
  ∃ s' h', zl_ 1 bytes e (h.new (.cells [enc x] e true 0)) s [enc x] 1 = some (s', h') ∧ Acc enc e base h' s' (xs ++ [x]) ∧ Chg (ofS s) h h' ∧ ∀ a, s'.a = some a → h.next ≤ a.block := by
 obtain ⟨g1, hg1⟩ : ∃ g1, g1 = h.new (.cells [enc x] e true 0) := ⟨_, rfl⟩
 have k1 : zc_ h g1 := hg1 ▸ zc_.new h _
 have n1 : g1.next = h.next + 1 := by rw [hg1]; rfl
 rw [← hg1]
 have A1 := A.keeps k1
 rcases A1.st with ⟨rfl, rfl⟩ | ⟨b, g⟩
 ·refine ⟨⟨some ⟨g1.next, 0, some 2⟩, 1, 1⟩, g1.new (outB enc e [x]), ?_, ⟨.inr ⟨g1.next, rfl, by simp, by simp⟩, ?_⟩, (k1.trans (zc_.new g1 _)).wk fun _ _ f => f.elim, ?_⟩
  ·simp only [zl_]
   rw [if_neg (by omega), if_pos (by simp at hs ⊢; omega)]
   rfl
  ·intro a ha; cases ha; simp; omega
  ·intro a ha; cases ha; simp; omega
 ·have hb := A1.lt ⟨b, 0, some 2⟩ (by rw [g.s])
  have hb0 := A.lt ⟨b, 0, some 2⟩ (by rw [g.s])
  have ap := g.append (bytes := bytes) (ys := [x]) ho (by simp) (by simpa using hs) h1
  refine ⟨_, _, ap, ⟨.inr ⟨g1.next, rfl, by simp, by simp⟩, ?_⟩, ?_, ?_⟩
  ·intro a ha; cases ha; simp; omega
  ·refine Chg.beh (T := (· = b)) (Chg.keeps k1) (Chg.kill_new (.inr rfl)) fun y hy e => ⟨⟨b, 0, some 2⟩, by rw [g.s], e⟩
  ·intro a ha; cases ha; simp; omega
def zFu_ (s t : Slc) : Prop := ∀ a b, s.a = some a → t.a = some b → a.block ≠ b.block
theorem zNy_ (s : ByteArray) (i j : Nat) : bl (s.extract i j) = ((bl s).take j).drop i := by
 simp [bl, ByteArray.data_extract, List.drop_take]
theorem zFb_ {s : ByteArray} {lo hi : Option Int} {i j : Nat} (hh : hi.getD s.size = (j : Int)) (hl : lo.getD 0 = (i : Int)) (h1 : i ≤ j) (h2 : j ≤ s.size) : Gx.subS s lo hi = some ⟨⟨((bl s).take j).drop i⟩⟩ := by
 simp only [Gx.subS, hh, hl]
 rw [if_pos (by omega)]
 congr 1
 apply zSf_
 rw [Int.toNat_natCast, Int.toNat_natCast]
 exact zNy_ s i j
def Wp {R : Type} (x : Option R) (Q : R → Prop) : Prop := ∃ r, x = some r ∧ Q r
theorem Wp.bnd {R α : Type} {Q : R → Prop} {x : Option α} {a : α} {f : α → Option R} (h : x = some a) (k : Wp (f a) Q) : Wp (x.bind f) Q := by rw [h]; exact k
theorem Wp.jn {R α : Type} {Q : R → Prop} {J : α} {b : α → Option R} (k : ∀ j, j = J → Wp (b j) Q) : Wp (zm_ J b) Q := k J rfl
theorem Wp.ifp {R : Type} {Q : R → Prop} {c : Prop} [Decidable c] {a b : Option R} (h : c) (k : Wp a Q) : Wp (if c then a else b) Q := by rw [if_pos h]; exact k
theorem Wp.ifn {R : Type} {Q : R → Prop} {c : Prop} [Decidable c] {a b : Option R} (h : ¬ c) (k : Wp b Q) : Wp (if c then a else b) Q := by rw [if_neg h]; exact k
theorem Wp.gp {R : Type} {Q : R → Prop} {p : Prop} {x : Option R} (h : p) (k : Wp x Q) : Wp (zR_ p x) Q := by rw [zRk_ h]; exact k
theorem Wp.of {R : Type} {Q : R → Prop} {r : R} (h : Q r) : Wp (some r) Q := ⟨r, rfl, h⟩
theorem Wp.mono {R : Type} {Q P : R → Prop} {x : Option R} (h : Wp x Q) (k : ∀ r, Q r → P r) : Wp x P := let ⟨r, e, q⟩ := h; ⟨r, e, k r q⟩
theorem Wp.call {R α : Type} {Q : R → Prop} {P : α → Prop} {x : Option α} {f : α → Option R} (h : Wp x P) (k : ∀ a, P a → Wp (f a) Q) : Wp (x.bind f) Q := let ⟨a, e, p⟩ := h; .bnd e (k a p)
theorem zoi_ {n b i : Nat} (hi : i < n) : idxA n 1 ⟨b, 0, none⟩ (i : Int) = some ⟨b, i, none⟩ := by
 unfold idxA
 rw [if_pos (by omega), Int.toNat_natCast, Nat.mul_one, Nat.zero_add]
theorem zJD_ {n b i o : Nat} (hi : i < n) : idxA n 1 ⟨b, o, none⟩ (i : Int) = some ⟨b, o + i, none⟩ := by
 unfold idxA
 rw [if_pos (by omega), Int.toNat_natCast, Nat.mul_one]
theorem sw64 {x : Int} {n : Nat} (h : x = (n : Int)) (hn : n < 9223372036854775808) : IntKind.wrap .i64 x = (n : Int) := by rw [h]; exact w64 _ (by omega)
theorem zc_.set {h0 h : AHeap} {b : Nat} {B : ABlk} (k : zc_ h0 h) (hb : h0.next ≤ b) : zc_ h0 (h.set b B) :=
 Chg.beh k (Chg.set (S := fun x => x = b) (.inr rfl)) fun x hx e => by have e : x = b := e; omega
theorem ssw1 {H1 : AHeap} {F : AHeap → Option Value} {v : Value} (h : F H1 = some v) : zKb_ [H1] F v := by
 intro H hH; simp at hH; subst hH; exact h
theorem zp_ {h : AHeap} {b o : Nat} {sp : Option Nat} {c : List Value} {e : TypeId} {r : Bool} {fz : Nat} {k : IntKind} {x : Int} (hb : h.get b = some (.cells c e r fz)) (hc : c[o]? = some (.int k x)) : ldI k ⟨b, o, sp⟩ h = some x := by
 simp [ldI, AHeap.rd1, hb, hc, decI]
theorem zA_ {h : AHeap} {b n : Nat} {sp : Option Nat} {c : List Value} {e : TypeId} {r : Bool} {fz : Nat} (hb : h.get b = some (.cells c e r fz)) (hc : c.length = n) : ldA n ⟨b, 0, sp⟩ h = some c := by
 subst hc; exact zai_ hb
theorem zB_ {h : AHeap} {b o : Nat} {sp : Option Nat} {c : List Value} {e : TypeId} {r : Bool} {fz : Nat} {a : Option Addr} {n m : Nat} (hb : h.get b = some (.cells c e r fz)) (hc : c[o]? = some (.slice a n m)) : ldL ⟨b, o, sp⟩ h = some ⟨a, n, m⟩ := by
 simp [ldL, AHeap.rd1, hb, hc, decL]
theorem zxs_ {h : AHeap} {b n : Nat} {sp : Option Nat} {c : List Value} {e : TypeId} {r : Bool} {fz : Nat} (hb : h.get b = some (.cells c e r fz)) (hn : 0 < n) (hc : n ≤ c.length) : ldA n ⟨b, 0, sp⟩ h = some (c.take n) := by
 obtain ⟨m, rfl⟩ : ∃ m, n = m + 1 := ⟨n - 1, by omega⟩
 simp only [ldA, AHeap.rdL, hb]
 rw [if_pos (by omega), List.drop_zero]
theorem zjp_ {h : AHeap} {b n : Nat} {sp : Option Nat} {c cs : List Value} {e : TypeId} (hb : h.get b = some (.cells c e true 0)) (hc : c.length = n) (hl : cs.length = n) (ho : zI_ cs = true) (hn : n ≠ 0) :
  stL n ⟨b, 0, sp⟩ cs h = some (h.set b (.cells cs e true 0)) := by
 unfold stL
 rw [hl, Nat.beq_refl, cond_true]
 cases cs with
 | nil => simp at hl; omega
 | cons v t =>
  simp only [AHeap.wrL, hb]
  rw [if_pos ⟨by omega, Nat.le_refl _, ho⟩]
  simp only [zx_, List.take_zero, List.nil_append, Nat.zero_add, hl]
  rw [← hc, List.drop_length, List.append_nil]
theorem zmb_ (h : AHeap) (b : Nat) (B : ABlk) : (h.set b B).get b = some B := by simp
theorem Acc.app {α : Type} {enc : α → Value} {e : TypeId} {base bytes : Nat} {h : AHeap} {s : Slc} {xs : List α} (A : Acc enc e base h s xs) (ho : ∀ x, one (enc x) = true) (ys : List α) (hs : 2 * (xs.length + ys.length) * bytes ≤ 281474976710656) (h1 : 1 ≤ bytes) (hbase : base ≤ h.next) :
  ∃ s' h', zl_ 1 bytes e h s (ys.map enc) ys.length = some (s', h') ∧ Acc enc e base h' s' (xs ++ ys) ∧ Chg (ofS s) h h' ∧ ∀ a, s'.a = some a → h.next ≤ a.block ∨ s.a = some a := by
 by_cases hy : ys = []
 ·subst hy
  rw [List.append_nil]
  rcases A.st with ⟨rfl, rfl⟩ | ⟨b, g⟩
  ·exact ⟨⟨none, 0, 0⟩, h, by simp [zl_], A, Chg.refl _ _, fun a ha => by cases ha⟩
  ·refine ⟨s, h, ?_, A, Chg.refl _ _, fun a ha => .inr ha⟩
   rw [g.s]; simp [zl_]
 ·have hl : ys.length ≠ 0 := fun q => hy (List.length_eq_zero_iff.1 q)
  rcases A.st with ⟨rfl, rfl⟩ | ⟨b, g⟩
  ·refine ⟨⟨some ⟨h.next, 0, some 2⟩, ys.length, ys.length⟩, h.new (outB enc e ys), ?_, ⟨.inr ⟨h.next, by simpa using Grown.of hy⟩, ?_⟩, Chg.new _ _, ?_⟩
   ·simp only [zl_, Nat.zero_add]
    rw [if_neg (by omega), if_pos (by simp at hs; omega)]
    rfl
   ·intro a ha; cases ha; simp; omega
   ·intro a ha; cases ha; simp
  ·have hb := A.lt ⟨b, 0, some 2⟩ (by rw [g.s])
   have ap := g.append (bytes := bytes) (ys := ys) ho hy hs h1
   refine ⟨_, _, ap, ⟨.inr ⟨h.next, rfl, by simp, by simp [hy]⟩, ?_⟩, Chg.kill_new (.inr ⟨⟨b, 0, some 2⟩, by rw [g.s], rfl⟩), ?_⟩
   ·intro a ha; cases ha; simp; omega
   ·intro a ha; cases ha; simp
structure Lst {α : Type} (enc : α → Value) (e : TypeId) (n0 : Nat) (h : AHeap) (s : Slc) (xs : List α) : Prop where
 ne : xs ≠ []
 st : ∃ b sp, s = ⟨some ⟨b, 0, sp⟩, xs.length, xs.length⟩ ∧ h.get b = some (outB enc e xs) ∧ n0 ≤ b ∧ b < h.next ∧ (sp = some 0 ∨ sp = some 2)
theorem Lst.chg {α : Type} {S : Nat → Prop} {enc : α → Value} {e : TypeId} {n0 : Nat} {h h' : AHeap} {s : Slc} {xs : List α} (L : Lst enc e n0 h s xs) (c : Chg S h h') (hs : ∀ a, s.a = some a → ¬ S a.block) : Lst enc e n0 h' s xs := by
 obtain ⟨b, sp, h1, h2, h3, h4, h5⟩ := L.st
 exact ⟨L.ne, b, sp, h1, (c.oth b h4 (hs ⟨b, 0, sp⟩ (by rw [h1]))).trans h2, h3, Nat.lt_of_lt_of_le h4 c.nx, h5⟩
theorem Lst.len {α : Type} {enc : α → Value} {e : TypeId} {n0 : Nat} {h : AHeap} {s : Slc} {xs : List α} (L : Lst enc e n0 h s xs) : s.len = xs.length := by
 obtain ⟨b, sp, h1, _⟩ := L.st
 rw [h1]
theorem Lst.app {α : Type} {enc : α → Value} {e : TypeId} {n0 bytes : Nat} {h : AHeap} {s : Slc} {xs : List α} (L : Lst enc e n0 h s xs) (ho : ∀ x, one (enc x) = true) (ys : List α) (hy : ys ≠ []) (hs : 2 * (xs.length + ys.length) * bytes ≤ 281474976710656) (h1 : 1 ≤ bytes) (hn : n0 ≤ h.next) :
  ∃ s' h', zl_ 1 bytes e h s (ys.map enc) ys.length = some (s', h') ∧ Lst enc e n0 h' s' (xs ++ ys) ∧ Chg (fun x => n0 ≤ x) h h' := by
 obtain ⟨b, sp, rfl, g2, g3, g4, g5⟩ := L.st
 have l2 : ys.length ≠ 0 := fun q => hy (List.length_eq_zero_iff.1 q)
 have l1 : 0 < xs.length := List.length_pos_iff.2 L.ne
 rcases g5 with rfl | rfl
 ·have hr := zai_ g2
  rw [List.length_map] at hr
  refine ⟨⟨some ⟨h.next, 0, some 2⟩, (xs ++ ys).length, (xs ++ ys).length⟩, h.new (outB enc e (xs ++ ys)), ?_, ⟨by simp [hy], h.next, _, rfl, by simp, hn, by simp, .inr rfl⟩, Chg.new _ _⟩
  unfold zl_
  rw [if_neg (by simp; omega), if_pos ⟨by simpa using hs, h1⟩]
  simp only [Nat.mul_one, hr]
  simp [outB]
 ·have g : Grown enc e h b (⟨some ⟨b, 0, some 2⟩, xs.length, xs.length⟩ : Slc) xs := ⟨rfl, g2, L.ne⟩
  exact ⟨_, _, g.append ho hy hs h1, ⟨by simp [hy], h.next, _, rfl, by simp, hn, by simp, .inr rfl⟩, Chg.kill_new (.inr g3)⟩
def encU (x : UInt32) : Value := .int .u32 (x.toNat : Int)
theorem zMi_ (x : UInt32) : x.toNat < 4294967296 := x.toNat_lt
theorem zwr_ (n : Int) (h₀ : 0 ≤ n) (h₁ : n < 2 ^ 32) : IntKind.u32.wrap n = n := by rw [Go.IntKind.wrap_u32]; omega
theorem zmr_ (n : Int) (h₀ : 0 ≤ n) (h₁ : n < 18446744073709551616) : IntKind.u64.wrap n = n := by
 have e : n % (2 ^ IntKind.u64.bits : Int) = n := Int.emod_eq_of_lt h₀ (by show n < 18446744073709551616; omega)
 unfold IntKind.wrap
 simp only [e]
 rw [if_neg]
 intro h
 simp only [Bool.and_eq_true] at h
 exact absurd h.1 (by decide)
theorem xorU (x y : UInt32) : Go.bits .xor .u32 (x.toNat : Int) (y.toNat : Int) = ((x ^^^ y).toNat : Int) := by
 rw [UInt32.toNat_xor]; exact bx .u32 32 (by decide) zwr_ _ _ (zMi_ x) (zMi_ y)
theorem andU (x y : UInt32) : Go.bits .and .u32 (x.toNat : Int) (y.toNat : Int) = ((x &&& y).toNat : Int) := by
 rw [UInt32.toNat_and]; exact (bits_nat .u32 32 (by decide) zwr_ _ _ (zMi_ x) (zMi_ y)).1
theorem orU (x y : UInt32) : Go.bits .or .u32 (x.toNat : Int) (y.toNat : Int) = ((x ||| y).toNat : Int) := by
 rw [UInt32.toNat_or]; exact (bits_nat .u32 32 (by decide) zwr_ _ _ (zMi_ x) (zMi_ y)).2
theorem addU (x y : UInt32) : IntKind.wrap .u32 ((x.toNat : Int) + (y.toNat : Int)) = ((x + y).toNat : Int) := by
 rw [UInt32.toNat_add, Go.IntKind.wrap_u32]
 have := zMi_ x; have := zMi_ y
 omega
theorem notU (x : UInt32) : Go.bits .xor .u32 (IntKind.max .u32) (x.toNat : Int) = ((~~~x).toNat : Int) := by
 have e : (IntKind.max .u32) = (((4294967295 : UInt32).toNat : Nat) : Int) := by decide
 rw [e, xorU]
 congr 2
theorem shrU (x : UInt32) (n : Nat) (hn : n < 32) : Int.fdiv (x.toNat : Int) ((2 ^ n : Nat) : Int) = ((x >>> (UInt32.ofNat n)).toNat : Int) := by
 rw [UInt32.toNat_shiftRight]
 have e : (UInt32.ofNat n).toNat % 32 = n := by
  rw [UInt32.toNat_ofNat']
  omega
 rw [e, Nat.shiftRight_eq_div_pow, Int.fdiv_eq_ediv_of_nonneg _ (Int.natCast_nonneg _)]
 simp
theorem shlU (x : UInt32) (n : Nat) (hn : n < 32) : IntKind.wrap .u32 ((x.toNat : Int) * ((2 ^ n : Nat) : Int)) = ((x <<< (UInt32.ofNat n)).toNat : Int) := by
 rw [UInt32.toNat_shiftLeft]
 have e : (UInt32.ofNat n).toNat % 32 = n := by
  rw [UInt32.toNat_ofNat']
  omega
 rw [e, Nat.shiftLeft_eq, Go.IntKind.wrap_u32]
 have : (x.toNat : Int) * ((2 ^ n : Nat) : Int) = ((x.toNat * 2 ^ n : Nat) : Int) := by simp
 rw [this]
 show ((x.toNat * 2 ^ n : Nat) : Int) % 4294967296 = ((x.toNat * 2 ^ n % 4294967296 : Nat) : Int)
 omega
def filU (f : Nat → UInt32) (T i : Nat) : List Value := (List.range i).map (fun j => encU (f j)) ++ List.replicate (T - i) (.int .u32 0)
theorem zRp_ {f : Nat → UInt32} {T i : Nat} (hi : i ≤ T) : (filU f T i).length = T := by simp [filU]; omega
theorem zQB_ {f : Nat → UInt32} {T i j : Nat} (hj : j < i) : (filU f T i)[j]? = some (.int .u32 ((f j).toNat : Int)) := by
 unfold filU
 rw [List.getElem?_append_left (by simpa using hj)]
 simp [hj, encU]
theorem zrv_ {f : Nat → UInt32} {T i : Nat} (hi : i < T) : (filU f T i).set i (.int .u32 ((f i).toNat : Int)) = filU f T (i + 1) := by
 unfold filU
 have e1 : ((List.range i).map fun j => encU (f j)).length = i := by simp
 rw [List.set_append_right _ _ (by rw [e1]; exact Nat.le_refl _), e1, Nat.sub_self, show T - i = (T - (i + 1)) + 1 by omega, List.replicate_succ, List.set_cons_zero, List.range_succ, List.map_append, List.append_assoc]
 rfl
theorem zZB_ {f : Nat → UInt32} {T : Nat} : filU f T T = (List.range T).map fun j => encU (f j) := by simp [filU]
theorem zvz_ {f : Nat → UInt32} {T : Nat} : filU f T 0 = List.replicate T (.int .u32 0) := by simp [filU]
theorem zKu_ (f : Nat → UInt32) (l : List Nat) : zI_ (l.map fun j => encU (f j)) = true := by
 induction l with
 | nil => rfl
 | cons x l ih => simpa [zI_, encU, one] using ih
def rotr (x : UInt32) (n : Nat) : UInt32 := (x <<< (UInt32.ofNat (32 - n))) ||| (x >>> (UInt32.ofNat n))
structure RowW {α : Type} (w : Nat) (enc : α → List Value) (h : AHeap) (s : Slc) (xs : List α) : Prop where
 len : s.len = xs.length
 at' : ∀ (i : Nat) (x : α), xs[i]? = some x → ∃ a c e r fz, s.a = some a ∧ a.block < h.next ∧ h.get a.block = some (.cells c e r fz) ∧ ∀ (j : Nat) (v : Value), (enc x)[j]? = some v → c[a.off + i * w + j]? = some v
section
variable {α : Type} {w : Nat} {enc : α → List Value} {h h' : AHeap} {s : Slc} {xs : List α}
theorem RowW.nil (w : Nat) (enc : α → List Value) (h : AHeap) (a : Option Addr) (cap : Nat) : RowW w enc h ⟨a, 0, cap⟩ [] := ⟨rfl, fun i x hx => by simp at hx⟩
theorem RowW.chg {S : Nat → Prop} (R : RowW w enc h s xs) (c : Chg S h h') (hs : ∀ a, s.a = some a → ¬ S a.block) : RowW w enc h' s xs :=
 ⟨R.len, fun i x hx => by
  obtain ⟨a, cs, e, r, fz, h1, h2, h3, h4⟩ := R.at' i x hx
  exact ⟨a, cs, e, r, fz, h1, Nat.lt_of_lt_of_le h2 c.nx, (c.oth _ h2 (hs a h1)).trans h3, h4⟩⟩
theorem RowW.keeps (R : RowW w enc h s xs) (c : zc_ h h') : RowW w enc h' s xs := R.chg c fun _ _ f => f
theorem RowW.ld (R : RowW w enc h s xs) (hw : ∀ x, (enc x).length = w) (hw0 : 0 < w) {i : Nat} {x : α} (hx : xs[i]? = some x) :
  ∃ q, idxL w s (i : Int) = some q ∧ ldA w q h = some (enc x) ∧ (∀ (j : Nat) (k : IntKind) (n : Int), (enc x)[j]? = some (.int k n) → ldI k ⟨q.block, q.off + j, none⟩ h = some n) ∧ (∀ (j : Nat) (t : ByteArray), (enc x)[j]? = some (.string t) → ldS ⟨q.block, q.off + j, none⟩ h = some t) := by
 obtain ⟨a, c, e, r, fz, h1, h2, h3, h4⟩ := R.at' i x hx
 have hi : i < s.len := by rw [R.len]; exact (List.getElem?_eq_some_iff.1 hx).1
 refine ⟨⟨a.block, a.off + i * w, none⟩, ?_, ?_, fun j k n hj => zp_ h3 (h4 j _ hj), fun j t hj => ?_⟩
 ·simp only [idxL, h1]
  rw [if_pos (by omega), Int.toNat_natCast]
 ·obtain ⟨m, rfl⟩ : ∃ m, w = m + 1 := ⟨w - 1, by omega⟩
  have hl : (enc x).length = m + 1 := hw x
  obtain ⟨v, hv⟩ := zv_ (l := enc x) (i := m) (by omega)
  have hlt := (List.getElem?_eq_some_iff.1 (h4 m v hv)).1
  simp only [ldA, AHeap.rdL, h3]
  rw [if_pos (by omega)]
  congr 1
  apply List.ext_getElem?
  intro j
  rw [List.getElem?_take, List.getElem?_drop]
  by_cases hj : j < m + 1
  ·obtain ⟨u, hu⟩ := zv_ (l := enc x) (i := j) (by omega)
   rw [if_pos hj, hu]; exact h4 j u hu
  ·rw [if_neg hj, List.getElem?_eq_none (by omega)]
 ·simp [ldS, AHeap.rd1, h3, h4 j _ hj, decS]
theorem zQf_ (hw : ∀ x, (enc x).length = w) : ∀ xs : List α, (xs.flatMap enc).length = xs.length * w
 | [] => by simp
 | x :: xs => by rw [List.flatMap_cons, List.length_append, zQf_ hw xs, hw x, List.length_cons, Nat.succ_mul]; omega
theorem zlk_ (hw : ∀ x, (enc x).length = w) : ∀ {xs : List α} {i : Nat} {x : α}, xs[i]? = some x → ∀ (j : Nat) (v : Value), (enc x)[j]? = some v → (xs.flatMap enc)[i * w + j]? = some v
 | [], i, x, h, _, _, _ => by simp at h
 | y :: xs, 0, x, h, j, v, hv => by
  simp at h; subst h
  have hj : j < (enc y).length := (List.getElem?_eq_some_iff.1 hv).1
  rw [List.flatMap_cons, Nat.zero_mul, Nat.zero_add, List.getElem?_append_left hj]; exact hv
 | y :: xs, i + 1, x, h, j, v, hv => by
  have := zlk_ hw (xs := xs) (i := i) (x := x) (by simpa using h) j v hv
  rw [List.flatMap_cons, List.getElem?_append_right (by rw [hw y, Nat.succ_mul]; omega), hw y, show (i + 1) * w + j - w = i * w + j by rw [Nat.succ_mul]; omega]
  exact this
theorem zGA_ (ho : ∀ x, zI_ (enc x) = true) : ∀ xs : List α, zI_ (xs.flatMap enc) = true := by
 have app : ∀ a b : List Value, zI_ a = true → zI_ b = true → zI_ (a ++ b) = true := fun a b ha hb => by
  induction a with
  | nil => exact hb
  | cons v a ih => simp [zI_] at ha ⊢; exact ⟨ha.1, ih ha.2⟩
 intro xs
 induction xs with
 | nil => rfl
 | cons x xs ih => rw [List.flatMap_cons]; exact app _ _ (ho x) ih
theorem zgq_ (hw : ∀ x, (enc x).length = w) {b n cap : Nat} {sp : Option Nat} {ys : List α} {e : TypeId} {r : Bool} {fz : Nat} (hb : h.get b = some (.cells (ys.flatMap enc) e r fz)) (hl : b < h.next) (hn : n ≤ ys.length) : RowW w enc h ⟨some ⟨b, 0, sp⟩, n, cap⟩ (ys.take n) :=
 ⟨by rw [List.length_take]; show n = min n ys.length; omega, fun i x hx => by
  rw [List.getElem?_take] at hx
  split at hx
  ·exact ⟨_, _, _, _, _, rfl, hl, hb, fun j v hv => by rw [Nat.zero_add]; exact zlk_ hw hx j v hv⟩
  ·cases hx⟩
end
structure AccW {α : Type} (w : Nat) (enc : α → List Value) (e : TypeId) (base : Nat) (h : AHeap) (s : Slc) (xs : List α) : Prop where
 st : (s = ⟨none, 0, 0⟩ ∧ xs = []) ∨ ∃ b, s = ⟨some ⟨b, 0, some (w + 1)⟩, xs.length, xs.length⟩ ∧ h.get b = some (.cells (xs.flatMap enc) e true 0) ∧ xs ≠ []
 lt : ∀ a, s.a = some a → a.block < h.next ∧ base ≤ a.block
section
variable {α : Type} {w : Nat} {enc : α → List Value} {e : TypeId} {base : Nat} {h h' : AHeap} {s : Slc} {xs : List α}
theorem AccW.nil (w : Nat) (enc : α → List Value) (e : TypeId) (base : Nat) (h : AHeap) : AccW w enc e base h ⟨none, 0, 0⟩ [] := ⟨.inl ⟨rfl, rfl⟩, fun a ha => by cases ha⟩
theorem AccW.chg {S : Nat → Prop} (A : AccW w enc e base h s xs) (c : Chg S h h') (hs : ∀ a, s.a = some a → ¬ S a.block) : AccW w enc e base h' s xs := by
 refine ⟨A.st.imp id ?_, fun a ha => ⟨Nat.lt_of_lt_of_le (A.lt a ha).1 c.nx, (A.lt a ha).2⟩⟩
 rintro ⟨b, h1, h2, h3⟩
 have hb := A.lt ⟨b, 0, some (w + 1)⟩ (by rw [h1])
 exact ⟨b, h1, (c.oth b hb.1 (hs ⟨b, 0, some (w + 1)⟩ (by rw [h1]))).trans h2, h3⟩
theorem AccW.keeps (A : AccW w enc e base h s xs) (c : zc_ h h') : AccW w enc e base h' s xs := A.chg c fun _ _ f => f
theorem AccW.row (A : AccW w enc e base h s xs) (hw : ∀ x, (enc x).length = w) : RowW w enc h s xs := by
 rcases A.st with ⟨rfl, rfl⟩ | ⟨b, rfl, h2, h3⟩
 ·exact RowW.nil _ _ _ _ _
 ·have := zgq_ (cap := xs.length) (sp := some (w + 1)) hw h2 (A.lt ⟨b, 0, some (w + 1)⟩ rfl).1 (Nat.le_refl _)
  rw [List.take_length] at this
  exact this
theorem zTg_ (hw : ∀ x, (enc x).length = w) (x : α) (e : TypeId) : rdS w (⟨some ⟨h.next, 0, some 0⟩, 1, 1⟩ : Slc) (h.new (.cells (enc x) e true 0)) = some (enc x) := by
 have := zai_ (h := h.new (.cells (enc x) e true 0)) (b := h.next) (c := enc x) (e := e) (r := true) (fz := 0) (by simp)
 rw [hw x] at this
 simpa [rdS] using this
theorem AccW.push (A : AccW w enc e base h s xs) (hw : ∀ x, (enc x).length = w) (ho : ∀ x, zI_ (enc x) = true) (x : α) {bytes : Nat} (h1 : 1 ≤ bytes) (hs : 2 * (xs.length + 1) * bytes ≤ 281474976710656) (hbase : base ≤ h.next) :
  ∃ s' h', zl_ w bytes e (h.new (.cells (enc x) e true 0)) s (enc x) 1 = some (s', h') ∧ AccW w enc e base h' s' (xs ++ [x]) ∧ Chg (ofS s) h h' ∧ ∀ a, s'.a = some a → h.next ≤ a.block := by
 obtain ⟨g1, hg1⟩ : ∃ g1, g1 = h.new (.cells (enc x) e true 0) := ⟨_, rfl⟩
 have k1 : zc_ h g1 := hg1 ▸ zc_.new h _
 have n1 : g1.next = h.next + 1 := by rw [hg1]; rfl
 rw [← hg1]
 have A1 := A.keeps k1
 rcases A1.st with ⟨rfl, rfl⟩ | ⟨b, rfl, h2, h3⟩
 ·refine ⟨⟨some ⟨g1.next, 0, some (w + 1)⟩, 1, 1⟩, g1.new (.cells (enc x) e true 0), ?_, ⟨.inr ⟨g1.next, rfl, by simp, by simp⟩, ?_⟩, (k1.trans (zc_.new g1 _)).wk fun _ _ f => f.elim, ?_⟩
  ·simp only [zl_]
   rw [if_neg (by omega), if_pos (by simp at hs ⊢; omega)]
  ·intro a ha; cases ha; simp; omega
  ·intro a ha; cases ha; simp; omega
 ·have hb := A1.lt ⟨b, 0, some (w + 1)⟩ rfl
  have hl := zQf_ hw xs
  have hx : 0 < xs.length := List.length_pos_iff.2 h3
  refine ⟨⟨some ⟨g1.next, 0, some (w + 1)⟩, xs.length + 1, xs.length + 1⟩, (g1.kill b).new (.cells ((xs ++ [x]).flatMap enc) e true 0), ?_, ⟨.inr ⟨g1.next, by simp, by simp, by simp⟩, ?_⟩, Chg.beh (T := (· = b)) (Chg.keeps k1) (Chg.kill_new (.inr rfl)) fun y hy q => ⟨⟨b, 0, some (w + 1)⟩, rfl, q⟩, ?_⟩
  ·simp only [zl_]
   rw [if_neg (by omega), if_pos ⟨hs, h1⟩]
   simp only [h2]
   rw [if_pos ⟨by omega, trivial, by omega, by omega, trivial, trivial, ho x⟩, ← hl, List.take_length, List.flatMap_append]
   simp
  ·intro a ha; cases ha; simp; omega
  ·intro a ha; cases ha; simp; omega
end
def newK {α : Type} (h : AHeap) (B : ABlk) (f : AHeap → α) : α := f (h.new B)
theorem Wp.new {R : Type} {Q : R → Prop} {h : AHeap} {B : ABlk} {f : AHeap → Option R} (k : ∀ H : AHeap, zc_ h H → H.next = h.next + 1 → H.get h.next = some B → Wp (f H) Q) : Wp (newK h B f) Q :=
 k _ (zc_.new h B) rfl (by simp)
theorem Chg.got {S : Nat → Prop} {h h' : AHeap} {x : Nat} {B : ABlk} (c : Chg S h h') (hx : x < h.next) (hs : ¬ S x) (g : h.get x = some B) : h'.get x = some B := (c.oth x hx hs).trans g
theorem zc_.got {h h' : AHeap} {x : Nat} {B : ABlk} (c : zc_ h h') (hx : x < h.next) (g : h.get x = some B) : h'.get x = some B := (c.oth x hx fun f => f).trans g
theorem Wp.st {R : Type} {Q : R → Prop} {h : AHeap} {b o : Nat} {sp : Option Nat} {c : List Value} {e : TypeId} {v : Value} {f : AHeap → Option R} (hb : h.get b = some (.cells c e true 0)) (ho : o < c.length) (hv : one v = true)
  (k : ∀ H : AHeap, Chg (· = b) h H → H.next = h.next → H.get b = some (.cells (c.set o v) e true 0) → Wp (f H) Q) : Wp ((st1 ⟨b, o, sp⟩ v h).bind f) Q :=
 Wp.bnd (zpc_ hb ho hv) (k _ (Chg.set (.inr rfl)) rfl (by simp))
theorem Wp.stL {R : Type} {Q : R → Prop} {h : AHeap} {b n : Nat} {sp : Option Nat} {c cs : List Value} {e : TypeId} {f : AHeap → Option R} (hb : h.get b = some (.cells c e true 0)) (hc : c.length = n) (hl : cs.length = n) (ho : zI_ cs = true) (hn : n ≠ 0)
  (k : ∀ H : AHeap, Chg (· = b) h H → H.next = h.next → H.get b = some (.cells cs e true 0) → Wp (f H) Q) : Wp ((Gx.stL n ⟨b, 0, sp⟩ cs h).bind f) Q :=
 Wp.bnd (zjp_ hb hc hl ho hn) (k _ (Chg.set (.inr rfl)) rfl (by simp))
theorem Chg.keepsS {S : Nat → Prop} {h h1 h2 : AHeap} (a : zc_ h h1) (c : Chg S h1 h2) (hs : ∀ y, S y → h.next ≤ y) : zc_ h h2 := Chg.beh a c fun y hy q => by have := hs y q; omega
end Gx
namespace Gx
open Go
theorem Wp.newE {R : Type} {Q : R → Prop} {h : AHeap} {B : ABlk} {f : AHeap → Option R} (k : ∀ H : AHeap, H = h.new B → zc_ h H → H.next = h.next + 1 → H.get h.next = some B → Wp (f H) Q) : Wp (newK h B f) Q :=
 k _ rfl (zc_.new h B) rfl (by simp)
theorem Acc.pushK {α : Type} {enc : α → Value} {e : TypeId} {base bytes : Nat} {h H : AHeap} {s : Slc} {xs : List α} (A : Acc enc e base h s xs) (ho : ∀ x, one (enc x) = true) (x : α) (eH : H = h.new (.cells [enc x] e true 0)) (hs : 2 * (xs.length + 1) * bytes ≤ 281474976710656) (h1 : 1 ≤ bytes) (hbase : base ≤ h.next) :
  ∃ s' h', rdS 1 (⟨some ⟨h.next, 0, some 0⟩, 1, 1⟩ : Slc) H = some [enc x] ∧ zl_ 1 bytes e H s [enc x] 1 = some (s', h') ∧ Acc enc e base h' s' (xs ++ [x]) ∧ Chg (ofS s) h h' ∧ ∀ a, s'.a = some a → h.next ≤ a.block := by
 subst eH
 obtain ⟨s', h', a, A', c, d⟩ := A.push ho x hs h1 hbase
 exact ⟨s', h', zis_, a, A', c, d⟩
end Gx
namespace Gx
open Go Go.RowKit
section
variable {G : Nat} {P : Program}
theorem Step.belowX {μ : BMap} {h : AHeap} {w w' : World} (s : Sim G μ h w) (b : Below w.heap.size w w') : Step G μ h w μ h w' where
 sim := by
  refine ⟨fun x B hx => ?_, s.inj, s.lt, s.glob, s.gle⟩
  obtain ⟨c, d, z, O, hm, hO, hr⟩ := s.blk x B hx
  exact ⟨c, d, z, O, hm, by rw [b.block c (Array.getElem?_eq_some_iff.1 hO).1]; exact hO, hr⟩
 nx := Nat.le_refl _
 same := fun _ _ => rfl
 os := b.os
 tape := b.tape
 output := b.output
 size := b.size
 old := fun c hc _ => b.block c hc
 img := fun x B p hb hn _ => absurd (s.lt x B hb) (by omega)
 keep := fun x B' hb _ => ⟨B', hb, id⟩
theorem zgz_ {g : FuncId} {fn : Func} {c : Code} {args : List Value} {h : AHeap} {v : Value} (hf : P.funcs[g]? = some fn) (hb : fn.body = some c) (hname : (fn.name == "runtime.NumGoroutine") = false)
  (k : ∀ (μ : BMap) (w : World) (args' : List Value), Sim G μ h w → VRs μ args args' → ∃ v', VR μ v v' ∧ Calls P g ⟨args'⟩ w fun e w' => e = .returned v' ∧ Below w.heap.size w w') : FnS P G g args h v h := by
 refine ⟨Nat.le_refl _, fun μ w args' s _ hv rd o a next Q hnext => ?_⟩
 have hcall : (callFunc g ⟨args'⟩).run P w = .ok (.enter g ⟨args'⟩) w := by
  have hne : ¬ fn.name = "runtime.NumGoroutine" := by simpa using hname
  simp [callFunc, hf, hne, hb]
 rw [zXe_ hf]
 refine zyl_ ?_
 rw [hcall, Oper.upon_enter]
 obtain ⟨v', hv', hc⟩ := k μ w args' s hv
 refine hc.mono ?_
 rintro e w' ⟨rfl, hbw⟩
 exact hnext v' w' ⟨μ, hv', Step.belowX s hbw⟩
def zQi_ : List Value → Option (List ByteArray)
 | [] => some []
 | .string s :: l => match zQi_ l with
  | some t => some (s :: t)
  | none => none
 | _ => none
theorem zIs_ : ∀ {l : List Value} {xs : List ByteArray}, zQi_ l = some xs → l = xs.map Value.string
 | [], xs, h => by simp [zQi_] at h; subst h; rfl
 | v :: l, xs, h => by
  unfold zQi_ at h
  split at h
  ·rename_i e; cases e
  ·rename_i s l0 e
   cases e
   split at h
   ·rename_i t ht
    cases h
    rw [zIs_ ht]; rfl
   ·cases h
  ·cases h
theorem zmy_ (xs : List ByteArray) : zQi_ (xs.map Value.string) = some xs := by
 induction xs with
 | nil => rfl
 | cons x xs ih => simp [zQi_, ih]
theorem zBC_ {h : AHeap} {b o n : Nat} {l : List Value} (hr : h.rdL b o n = some l) (hn : n ≠ 0) : ∃ c e r fz, h.get b = some (.cells c e r fz) ∧ l = (c.drop o).take n ∧ l.length = n := by
 cases n with
 | zero => exact absurd rfl hn
 | succ n =>
  simp only [AHeap.rdL] at hr
  split at hr
  ·rename_i c e r fz hb
   split at hr
   ·rename_i hle
    cases hr
    refine ⟨c, e, r, fz, hb, rfl, ?_⟩
    simp; omega
   ·cases hr
  ·cases hr
end
end Gx
namespace Gx
open Go Go.RowKit
open Go.Proofs (encStr)
section
variable {G : Nat} {P : Program}
theorem zLl_ {g : FuncId} {fn : Func} {c : Code} {args : List Value} {h h' : AHeap} {v : Value} (hf : P.funcs[g]? = some fn) (hb : fn.body = some c) (hname : (fn.name == "runtime.NumGoroutine") = false) (hn : h.next ≤ h'.next)
  (k : ∀ (μ : BMap) (w : World) (args' : List Value), Sim G μ h w → Zed μ h.next h'.next → VRs μ args args' → Calls P g ⟨args'⟩ w fun e w' => ∃ μ' v', e = .returned v' ∧ VR μ' v v' ∧ Step G μ h w μ' h' w') : FnS P G g args h v h' := by
 refine ⟨hn, fun μ w args' s z hv rd o a next Q hnext => ?_⟩
 have hcall : (callFunc g ⟨args'⟩).run P w = .ok (.enter g ⟨args'⟩) w := by
  have hne : ¬ fn.name = "runtime.NumGoroutine" := by simpa using hname
  simp [callFunc, hf, hne, hb]
 rw [zXe_ hf]
 refine zyl_ ?_
 rw [hcall, Oper.upon_enter]
 refine (k μ w args' s z hv).mono ?_
 rintro e w' ⟨μ', v', rfl, h1, h2⟩
 exact hnext v' w' ⟨μ', h1, h2⟩
def srt (ks : List ByteArray) : List Value := ((ks.map (·.data.toList)).mergeSort leB).map encStr
structure SortedC (P : Program) (f gk : FuncId) (e : TypeId) : Prop where
 cS : ∀ (bx b : Nat) (es : Array MapEntry) (clock : Nat) (ks : List ByteArray) (w : World), w.cell? ⟨bx, 0, none⟩ = some (.map (some b)) → w.heap[b]? = some (.map es clock) → es.toList.map (·.key) = ks.map Value.string →
  (∀ s ∈ ks, s.size ≤ 9223372036854775807) → MapKept.Stamped es clock → ks.length * 16 ≤ 140737488355328 →
  Calls P f #[.func (.func gk) #[] #[.pointer (some ⟨bx, 0, none⟩)]] w fun x w' => ∃ v, x = .returned v ∧ w'.ownsRow w.heap.size e 1 v ks.length (srt ks) ∧ (v = .slice none 0 0 ↔ ks = []) ∧ Below w.heap.size w w'
 cN : ∀ (bx : Nat) (w : World), w.cell? ⟨bx, 0, none⟩ = some (.map none) →
  Calls P f #[.func (.func gk) #[] #[.pointer (some ⟨bx, 0, none⟩)]] w fun x w' => x = .returned (.slice none 0 0) ∧ Below w.heap.size w w'
theorem VRs.strings {μ : BMap} (l : List (List UInt8)) : VRs μ (l.map encStr) (l.map encStr) := by
 induction l with
 | nil => exact .nil μ
 | cons x l ih => exact .cons (.str _) ih
end
end Gx
namespace Gx
open Go Go.RowKit
section
variable {G : Nat} {P : Program} {f : FuncId} {fn : Func}
def ovA (s t : Slc) (h : AHeap) : Option Unit :=
 match s.a, t.a with
 | some a, some b => match h.get a.block, h.get b.block with
  | some (.cells _ _ true 0), some (.cells c _ true _) => if a.block ≠ b.block ∧ s.len ≠ 0 ∧ t.len ≠ 0 ∧ c ≠ [] then some () else none
  | _, _ => none
 | _, _ => none
def eOvl (id : FuncId) : Ent := ⟨id, fun _ args h κ => match args with
 | [.slice a n c, .slice b m d] => (ovA ⟨a, n, c⟩ ⟨b, m, d⟩ h).bind fun _ => κ (.bool false) h
 | _ => none⟩
theorem ztD_ {tS tR e : TypeId} {size : Nat} (hf : P.funcs[f]? = some fn) (hname : (fn.name == "runtime.NumGoroutine") = false) (hb : fn.body.isNone = true) (hn : Extern.findNext fn = none)
  (he : Extern.find fn = some (Extern.SlicesOverlaps.overlaps #[tS, tS] #[tR])) (ht : P.underlying tS = some (.slice e)) (hz : ∀ w, (Go.sizeOf e).run P w = .ok size w) : zk_ P G (eOvl f) := by
 intro R args h κ r hr
 simp only [eOvl] at hr
 split at hr
 ·rename_i a n c b m d
  simp only [Option.bind_eq_some_iff] at hr
  obtain ⟨_, hA, hr⟩ := hr
  unfold ovA at hA
  split at hA
  ·rename_i ad bd ha hbd
   simp only at ha hbd
   split at hA
   ·rename_i cs e1 cs2 e2 fz h1 h2
    split at hA
    ·rename_i hc
     obtain ⟨hne, hn0, hm0, hc0⟩ := hc
     simp only at hn0 hm0
     subst ha; subst hbd
     refine ⟨_, h, hr, zlz_ (Nat.le_refl _) fun μ w args' sm z hv => ?_⟩
     obtain ⟨p', u', rfl, hp, hu⟩ := hv.two_inv
     cases hp with
     | empty _ => exact absurd rfl hn0
     | slice hma hca =>
      cases hu with
      | empty _ => exact absurd rfl hm0
      | slice hmb hcb =>
       rename_i b1 o1 c1 d1 z1 m1 sp1 b2 o2 c2 d2 z2 m2 sp2
       simp only at h1 h2 hne
       obtain ⟨x1, lo1, hi1, hO1, hz1, hc1, hrw1⟩ := sm.obj h1 hma
       obtain ⟨x2, lo2, hi2, hO2, hz2, hc2, hrw2⟩ := sm.obj h2 hmb
       have hcc : c1 ≠ c2 := sm.inj b1 b2 _ _ _ _ h1 h2 hne rfl hma hmb
       have hmk := (hrw1 rfl).2.2 (by decide)
       have hnf : ∀ i, w.frozen? ⟨c1, i, none⟩ = false := fun i => by
        rw [zhi_ hO1]
        rw [Bool.and_eq_false_iff]
        rcases hmk.1 with h | h
        ·by_cases hx : lo1 ≤ i
         ·right; simp; omega
         ·left; simpa using hx
        ·right; simp; omega
       have hx2 : x2.size ≠ 0 := by
        obtain ⟨v, t, e⟩ := List.exists_cons_of_ne_nil hc0
        obtain ⟨v', q1, _⟩ := hc2 0 v (by rw [e]; rfl)
        have := (Array.getElem?_eq_some_iff.1 q1).1
        omega
       have hrun := Lib.run_overlaps_apart (P := P) w tS tR e ht size hz ⟨c1, d1 + o1, none⟩ ⟨c2, d2 + o2, none⟩ n m1 m m2 hcc e1 e2 x1.size x2.size (by simp [World.shape?, hO1]) (by simp [World.shape?, hO2]) hx2 (hnf _) (hnf _)
       refine ⟨μ, _, w, ?_, .bool _, .refl sm⟩
       have e3 : ∀ x y : Value, (⟨[x, y]⟩ : Array Value) = #[x, y] := fun _ _ => rfl
       rw [e3]
       show (callFunc f _).run P w = _
       rw [run_callFunc_extern hf hname hb hn he, hrun]
       rfl
    ·cases hA
   ·cases hA
  ·cases hA
 ·cases hr
def zfk_ (e o n : Nat) : List (Nat × Nat × Nat) → Bool
 | [] => false
 | x :: l => (Nat.beq x.1 e && Nat.beq x.2.1 o && Nat.ble x.2.2 n) || zfk_ e o n l
theorem zos_ {e o n : Nat} : ∀ {l : List (Nat × Nat × Nat)}, zfk_ e o n l = true → ∃ s, (e, o, s) ∈ l ∧ s ≤ n
 | [], h => by cases h
 | x :: l, h => by
  simp only [zfk_, Bool.or_eq_true, Bool.and_eq_true] at h
  rcases h with ⟨⟨h1, h2⟩, h3⟩ | h
  ·have h1 := Nat.eq_of_beq_eq_true h1
   have h2 := Nat.eq_of_beq_eq_true h2
   obtain ⟨a, b, c⟩ := x
   simp only at h1 h2 h3
   subst h1; subst h2
   exact ⟨c, List.mem_cons_self, Nat.le_of_ble_eq_true h3⟩
  ·obtain ⟨s, h1, h2⟩ := zos_ h
   exact ⟨s, List.mem_cons_of_mem _ h1, h2⟩
def ccA (tab : List (Nat × Nat × Nat)) (a : Addr) (h : AHeap) : Option AHeap :=
 match h.get a.block with
 | some (.cells c e true _) => if zfk_ e a.off c.length tab = true ∧ a.spot = none then
   match c[a.off]? with
   | some (.pointer none) => st1 a (.pointer (some a)) h
   | some (.pointer (some b)) => if b = a then some h else none
   | _ => none
  else none
 | _ => none
def eCC (id : FuncId) (tab : List (Nat × Nat × Nat)) : Ent := ⟨id, fun _ args h κ => match args with
 | [.pointer p] => p.bind fun a => (ccA tab a h).bind fun h' => κ (.tuple ⟨[]⟩) h'
 | _ => none⟩
theorem zdE_ {tab : List (Nat × Nat × Nat)} {tb : TypeId} {c0 : Code} (hf : P.funcs[f]? = some fn) (hb : fn.body = some c0) (hname : (fn.name == "runtime.NumGoroutine") = false)
  (hused : ∀ (b o : Nat) (w : World), w.cell? ⟨b, o, none⟩ = some (.pointer (some ⟨b, o, none⟩)) → Calls P f #[.pointer (some ⟨b, o, none⟩)] w fun e w' => e = .returned (.tuple #[]) ∧ w' = w)
  (hfresh : ∀ (b o : Nat) (w : World) (T : TypeId) (z : Nat), w.cell? ⟨b, o, none⟩ = some (.pointer none) → w.shape? b = some (T, z) → o < z → liesAt P P.depth T (z / P.cellsOf T) o tb 1 = true → w.frozen? ⟨b, o, none⟩ = false →
   Calls P f #[.pointer (some ⟨b, o, none⟩)] w fun e w' => e = .returned (.tuple #[]) ∧ w' = w.setCell ⟨b, o, none⟩ (.pointer (some ⟨b, o, none⟩)))
  (htab : ∀ x ∈ tab, P.cellsOf x.1 = x.2.2 ∧ 0 < x.2.2 ∧ ∀ N, liesAt P P.depth x.1 (N + 1) x.2.1 tb 1 = true) : zk_ P G (eCC f tab) := by
 intro R args h κ r hr
 simp only [eCC] at hr
 split at hr
 ·rename_i p
  simp only [Option.bind_eq_some_iff] at hr
  obtain ⟨a, rfl, h', hA, hr⟩ := hr
  unfold ccA at hA
  split at hA
  ·rename_i c e fz hget
   split at hA
   ·rename_i hc
    obtain ⟨htb, hsp⟩ := hc
    obtain ⟨s, hmem, hle⟩ := zos_ htb
    obtain ⟨t1, t2, t3⟩ := htab _ hmem
    simp only at t1 t2 t3
    have inv : ∀ {μ : BMap} {w : World} {args' : List Value}, Sim G μ h w → VRs μ [.pointer (some a)] args' → ∃ cb z c', a = ⟨a.block, a.off, none⟩ ∧ args' = [.pointer (some ⟨cb, a.off, none⟩)] ∧ μ a.block = some (cb, 0, z) ∧ (∃ lo hi, w.heap[cb]? = some (.cells c' e (lo, hi))) ∧ c'.size = z ∧
      (∀ (i : Nat) (v : Value), c[i]? = some v → ∃ v', c'[i]? = some v' ∧ VR μ v v') := by
     intro μ w args' sm hv
     obtain ⟨p', rfl, hp⟩ := hv.one_inv
     obtain ⟨b, o, cb, d, z, rfl, rfl, hm⟩ := zDe_ hp
     simp only at hget
     obtain ⟨c', lo, hi, hO, hz, hcc, hrw⟩ := sm.obj hget hm
     obtain ⟨rfl, _⟩ := hrw rfl
     exact ⟨cb, z, c', rfl, by simp, hm, ⟨lo, hi, hO⟩, hz, fun i v hi => by simpa using hcc i v hi⟩
    split at hA
    ·rename_i hcell
     have hlt : a.off < c.length := (List.getElem?_eq_some_iff.1 hcell).1
     have hnx := zbC_ hA
     refine ⟨_, h', hr, zLl_ hf hb hname (Nat.le_of_eq hnx.symm) fun μ w args' sm zd hv => ?_⟩
     obtain ⟨cb, z, c', ea, rfl, hm, ⟨lo, hi, hO⟩, hz, hcc⟩ := inv sm hv
     obtain ⟨v', q1, q2⟩ := hcc _ _ hcell
     have e0 : v' = .pointer none := by cases q2; rfl
     subst e0
     have hlen : c.length ≤ z := by
      have : c.length - 1 < c.length := by omega
      obtain ⟨v', q3, _⟩ := hcc _ _ (List.getElem?_eq_getElem this)
      have := (Array.getElem?_eq_some_iff.1 q3).1
      omega
     have hcl : w.cell? ⟨cb, a.off, none⟩ = some (.pointer none) := by rw [zRf_ hO]; exact q1
     obtain ⟨w', r1, r2⟩ := sm.store1 (P := P) (o := a.off) (v' := .pointer (some ⟨cb, 0 + a.off, none⟩)) hm hA (by rw [ea]; exact .ptr hm)
     simp only [Nat.zero_add] at r1
     rw [run_store P w _ _ _ rfl, hcl] at r1
     simp only at r1
     cases hz2 : w.frozen? ⟨cb, a.off, none⟩ with
     | true => rw [hz2] at r1; simp at r1
     | false =>
      rw [hz2] at r1; simp at r1; subst r1
      have hN : ∃ N, z / P.cellsOf e = N + 1 := ⟨z / s - 1, by
       rw [t1]
       have : 1 ≤ z / s := (Nat.one_le_div_iff t2).2 (by omega)
       omega⟩
      obtain ⟨N, hN⟩ := hN
      refine (hfresh cb a.off w e z hcl (by simp [World.shape?, hO, hz]) (by omega) (by rw [hN]; exact t3 N) hz2).mono ?_
      rintro e' w' ⟨rfl, rfl⟩
      exact ⟨μ, _, rfl, .unit, r2⟩
    ·rename_i b hcell
     split at hA
     ·rename_i hba
      subst hba
      cases hA
      refine ⟨_, h, hr, zLl_ hf hb hname (Nat.le_refl _) fun μ w args' sm zd hv => ?_⟩
      obtain ⟨cb, z, c', ea, rfl, hm, ⟨lo, hi, hO⟩, hz, hcc⟩ := inv sm hv
      obtain ⟨v', q1, q2⟩ := hcc _ _ hcell
      obtain ⟨b1, o1, cb1, d1, z1, e1, rfl, hm1⟩ := zDe_ q2
      have hb1 : b.block = b1 := by rw [e1]
      have ho1 : b.off = o1 := by rw [e1]
      subst hb1; subst ho1
      rw [hm] at hm1; cases hm1
      refine (hused cb b.off w (by rw [zRf_ hO, q1]; simp)).mono ?_
      rintro e' w' ⟨rfl, rfl⟩
      exact ⟨μ, _, rfl, .unit, .refl sm⟩
     ·cases hA
    ·cases hA
   ·cases hA
  ·cases hA
 ·cases hr
end
end Gx
namespace Gx
open Go
abbrev HdF := (R : Type) → List Value → AHeap → (Value → AHeap → Option R) → Option R
def yC (b : Nat) (H : HdF) (C : za_) : za_ := fun R g args h κ => bif Nat.beq g (yk b) then H R args h κ else C R g args h κ
noncomputable def rfH (vals : List (Nat × Value)) (c : RfC) (b : Nat) (H : HdF) : HdF := fun R args h κ => match h.get b with
 | some (.loop _ _ vals' c') => zR_ (vals' = vals ∧ c' = c) (H R args h κ)
 | _ => none
def rfB {R : Type} (b : Nat) (h : AHeap) (κ : AHeap → Option R) : Option R := match h.get b with
 | some (.loop .ready p vals c) => κ (h.set b (.loop .busy p vals c))
 | _ => none
def rfE {R : Type} (b : Nat) (p : Option Code) (h : AHeap) (κ : Value → AHeap → Option R) : Option R := match h.get b with
 | some (.loop _ _ vals c) => κ (.bool p.isNone) (h.set b (.loop (if p.isNone then .ready else .done) p vals c))
 | _ => none
def zMx_ : AExit → Option Code
 | .normal => none
 | .ret => some .ret
 | .exit i => some (.exit i)
def zay_ : LoopState → Bool
 | .busy => true
 | _ => false
noncomputable def rfS {R : Type} (E : za_ → za_) (C : za_) (its : List Nat) (c : RfC) (vals : List (Nat × Value)) (H : Nat → HdF) (gv : Value) (h : AHeap) (κ : Option Code → AHeap → Option R) : Option R :=
 match gv with
 | .func (.func g) first capt => bif memB g its then
   E (yC h.next (rfH vals c h.next (H h.next)) C) R g (first.toList ++ (Value.func (.yield h.next) #[] #[] :: capt.toList)) (h.new (.loop .ready none vals c)) fun _ h' => match h'.get h.next with
    | some (.loop st p _ _) => bif zay_ st then none else κ p (h'.kill h.next)
    | _ => none
  else none
 | _ => none
def rfJ {R : Type} (p : Option Code) (a b : Option R) (k : Nat → Option R) : Option R := match p with
 | none => a
 | some .ret => b
 | some (.exit i) => k i
 | _ => none
def zVl_ (L : zS_) (f : PFr) : List (Nat × Value) := L.filterMap fun st => (f st.1).map fun v => (st.1, v)
def frV : List (Nat × Value) → PFr
 | [] => noFr
 | p :: l => pset (frV l) p.1 p.2
inductive XCode where
 | c (r : RCode)
 | seq (a b : XCode)
 | block (id : Nat) (a : XCode)
 | scope (a : XCode)
 | join (L : zS_) (a : XCode)
 | rf (its : List Nat) (L : zS_) (g : Operand) (c : RfC) (ps : zS_) (ra rb : RCode)
 | stuck
noncomputable def xden {R : Type} (E : za_ → za_) (C : za_) (k : Nat) : XCode → PFr → AHeap → (AExit → PFr → AHeap → Option R) → Option R
 | .c r, f, h, κ => den C k r f h κ
 | .seq a b, f, h, κ => xden E C k a f h fun e f h => match e with
  | .normal => xden E C k b f h κ
  | .exit i => κ (.exit i) f h
  | .ret => κ .ret f h
 | .block id c, f, h, κ => xden E C k c f h fun e f h => match e with
  | .normal => κ .normal f h
  | .exit i => bif Nat.beq i id then κ .normal f h else κ (.exit i) f h
  | .ret => κ .ret f h
 | .scope c, f, h, κ => xden E C k c f h κ
 | .join L c, f, h, κ => zm_ (lamL L noFr fun f h => κ .normal f h) fun j => xden E C k c f h fun e f h => match e with
   | .normal => appL L f j h
   | .exit i => κ (.exit i) f h
   | .ret => κ .ret f h
 | .rf its L g c ps ra rb, f, h, κ => (ev f g).bind fun gv => appL L f (lamL L noFr fun f0 h =>
   rfS E C its c (zVl_ L f0) (fun b _ args h κ' => appA ps args (lamL ps (frV (zVl_ L f0)) fun f1 h => den C k ra f1 h fun e f2 h => match e with
    | .normal => rfB b h fun h => den C k rb f2 h fun e _ h => rfE b (zMx_ e) h κ'
    | _ => none) h) gv h fun p h => rfJ p (κ .normal f h) (κ .ret f h) fun i => κ (.exit i) f h) h
 | .stuck, _, _, _ => none
def zPb_ : Code → Bool
 | .seq a b => zPb_ a || zPb_ b
 | .block _ a => zPb_ a
 | .scope a => zPb_ a
 | .rangeFunc _ _ _ _ => true
 | _ => false
def zfc_ (P : Program) (G n : Nat) : Code → Option XCode
 | .seq a b => bif zPb_ a || zPb_ b then (zfc_ P G n a).bind fun x => (zfc_ P G n b).map fun y => .seq x y else (zj_ P G n (.seq a b)).map .c
 | .block id a => bif zPb_ a then (zfc_ P G n a).map (.block id) else (zj_ P G n (.block id a)).map .c
 | .scope a => bif zPb_ a then (zfc_ P G n a).map .scope else (zj_ P G n (.scope a)).map .c
 | .rangeFunc g ps a b => bif opG G g then (zj_ P G n a).bind fun x => (zj_ P G n b).map fun y => .rf [] [] g ⟨n, ps, a, b⟩ [] x y else none
 | c => (zj_ P G n c).map .c
def zDc_ : XCode → XCode
 | .c r => .c (zo_ r)
 | .seq a b => .seq (zDc_ a) (zDc_ b)
 | .block id a => .block id (zDc_ a)
 | .scope a => .scope (zDc_ a)
 | .join _ a => zDc_ a
 | .rf _ _ g c _ ra rb => .rf [] [] g c [] (zo_ ra) (zo_ rb)
 | .stuck => .stuck
def zFt_ (P : Program) (g : Nat) : Bool := match P.funcs[g]? with
 | some fn => fn.body.isSome && !(fn.name == "runtime.NumGoroutine")
 | none => false
def znk_ : List Nat → zS_ → Nat → Bool
 | [], [], _ => true
 | p :: ps, (s, _) :: L, n => Nat.beq p s && Nat.ble (p + 1) n && znk_ ps L n
 | _, _, _ => false
def xok (P : Program) (n : Nat) : XCode → Bool
 | .c _ => true
 | .seq a b => xok P n a && xok P n b
 | .block _ a => xok P n a
 | .scope a => xok P n a
 | .join _ a => xok P n a
 | .rf its _ _ c ps _ _ => its.all (zFt_ P) && znk_ c.ps.toList ps n && Nat.ble P.funcs.size 18446744073709551616
 | .stuck => true
inductive XAT where
 | c (t : AT)
 | s (a b : XAT)
 | b (a : XAT)
 | j (L : zS_) (a : XAT)
 | f (its : List Nat) (L ps : zS_) (ta tb : AT)
def xan : XAT → XCode → XCode
 | .c t, x => match x with
  | .c r => .c (an t r)
  | x => x
 | .s a b, x => match x with
  | .seq y z => .seq (xan a y) (xan b z)
  | x => x
 | .b a, x => match x with
  | .block i y => .block i (xan a y)
  | .scope y => .scope (xan a y)
  | x => x
 | .j L a, x => .join L (xan a x)
 | .f its L ps ta tb, x => match x with
  | .rf _ _ g c _ ra rb => .rf its L g c ps (an ta ra) (an tb rb)
  | x => x
def xOf (P : Program) (G : Nat) (f : Func) : XCode := (f.body.bind (zfc_ P G f.ntmps)).getD .stuck
def zZo_ : XCode → Option RfC
 | .seq a b => match zZo_ a with
  | some c => some c
  | none => zZo_ b
 | .block _ a => zZo_ a
 | .scope a => zZo_ a
 | .join _ a => zZo_ a
 | .rf _ _ _ c _ _ _ => some c
 | _ => none
def rfc (x : XCode) : RfC := (zZo_ x).getD ⟨0, #[], .skip, .skip⟩
section
variable {G : Nat} {P : Program} {R : Type} {r : R} {C : za_}
theorem BR.deferred {μ : BMap} {d z : Nat} {B : ABlk} {x : Option (List Deferred)} (h : BR μ d z B (.deferred x)) : False := by
 unfold BR at h
 cases B <;> exact h
theorem Sim.notD {μ : BMap} {h : AHeap} {w : World} (s : Sim G μ h w) {m : Nat} {x : Option (List Deferred)} (hm : w.heap[m]? = some (.deferred x)) {b : Nat} {B : ABlk} {p : Nat × Nat × Nat} (hb : h.get b = some B) (hp : μ b = some p) : p.1 ≠ m := by
 intro e
 obtain ⟨c, d, z, O, h1, h2, h3⟩ := s.blk b B hb
 rw [hp] at h1; cases h1
 simp only at e; subst e
 rw [hm] at h2; cases h2
 exact h3.deferred
theorem Step.deferred {μ μ' : BMap} {h h' : AHeap} {w w' : World} (s : Sim G μ h w) (st : Step G μ h w μ' h' w') {m : Nat} {x : Option (List Deferred)} (hm : w.heap[m]? = some (.deferred x)) : w'.heap[m]? = some (.deferred x) := by
 rw [st.old m (Array.getElem?_eq_some_iff.1 hm).1 fun b B p hb _ hp => s.notD hm hb hp]; exact hm
theorem Step.hide {μ : BMap} {h : AHeap} {w : World} (s : Sim G μ h w) (O : Obj) : Step G μ h w μ h (w.alloc O) where
 sim := ⟨fun b B hb => by
  obtain ⟨c, d, z, O', h1, h2, h3⟩ := s.blk b B hb
  refine ⟨c, d, z, O', h1, ?_, h3⟩
  have hc := (Array.getElem?_eq_some_iff.1 h2).1
  show (w.heap.push O)[c]? = _
  rw [Array.getElem?_push, if_neg (by omega)]; exact h2, s.inj, s.lt, s.glob, s.gle⟩
 nx := Nat.le_refl _
 same := fun _ _ => rfl
 os := rfl
 tape := rfl
 output := rfl
 size := by simp
 old := fun c hc _ => by
  show (w.heap.push O)[c]? = _
  rw [Array.getElem?_push, if_neg (by omega)]
 img := fun b B p hb hn _ => absurd (s.lt b B hb) (by omega)
 keep := fun b B' hb _ => ⟨B', hb, id⟩
theorem Step.shut {μ0 μ : BMap} {h0 h : AHeap} {w0 w : World} (st : Step G μ0 h0 w0 μ h w) {m : Nat} {x : Option (List Deferred)} (hm : w.heap[m]? = some (.deferred x)) (hB : w0.heap.size ≤ m) (O : Obj) : Step G μ0 h0 w0 μ h (w.putObj m O) where
 sim := ⟨fun b B hb => by
  obtain ⟨c, d, z, O', h1, h2, h3⟩ := st.sim.blk b B hb
  refine ⟨c, d, z, O', h1, ?_, h3⟩
  rw [World.putObj_heap_other (st.sim.notD hm hb h1)]; exact h2, st.sim.inj, st.sim.lt, st.sim.glob, st.sim.gle⟩
 nx := st.nx
 same := st.same
 os := st.os
 tape := st.tape
 output := st.output
 size := by rw [World.putObj_size]; exact st.size
 old := fun c hc hno => by
  rw [World.putObj_heap_other (by omega)]; exact st.old c hc hno
 img := st.img
 keep := st.keep
def zWo_ (ms : List Nat) : List Deferred := ms.map fun m => { target := .collected m, args := #[] }
structure MarksOk (B0 : Nat) (ms : List Nat) (w : World) : Prop where
 nd : ms.Nodup
 lie : ∀ m ∈ ms, B0 ≤ m ∧ w.heap[m]? = some (.deferred (some []))
theorem MarksOk.step {B0 : Nat} {ms : List Nat} {μ μ' : BMap} {h h' : AHeap} {w w' : World} (k : MarksOk B0 ms w) (s : Sim G μ h w) (st : Step G μ h w μ' h' w') : MarksOk B0 ms w' :=
 ⟨k.nd, fun m hm => ⟨(k.lie m hm).1, st.deferred s (k.lie m hm).2⟩⟩
def RunX (P : Program) (G n : Nat) (c : Code) (f : PFr) (h : AHeap) (e : AExit) (f' : PFr) (h' : AHeap) : Prop :=
 h.next ≤ h'.next ∧ ∀ (B0 : Nat) (ms : List Nat) (μ : BMap) (a : Act) (w : World), At (zWo_ ms) G μ f h n a w → MarksOk B0 ms w → B0 ≤ w.heap.size → Zed μ h.next h'.next →
  c.wpIn Fence.wide 0 P (fun x a' w' => x = zIj_ e ∧ ∃ μ' ms', At (zWo_ ms') G μ' f' h' n a' w' ∧ MarksOk B0 ms' w' ∧ Step G μ h w μ' h' w') a w
theorem RunS.toX {n : Nat} {c : Code} {f f' : PFr} {h h' : AHeap} {e : AExit} (k : RunS P G n c f h e f' h') : RunX P G n c f h e f' h' :=
 ⟨k.1, fun _ ms μ a w t mk _ z => wpIn_mono (k.2 none μ a w t z) fun _ _ _ ⟨e, μ', t', st⟩ => ⟨e, μ', ms, t', mk.step t.sim st, st⟩⟩
theorem zkB_ (hC : zf_ P G C) {b : Nat} {H : HdF} (hH : ∀ (R : Type) args h (κ : Value → AHeap → Option R) r, H R args h κ = some r → ∃ v h', κ v h' = some r ∧ FnS P G (yk b) args h v h') : zf_ P G (yC b H C) := by
 intro R g args h κ r hr
 unfold yC at hr
 cases hb : Nat.beq g (yk b) with
 | false => rw [hb] at hr; exact hC R g args h κ r hr
 | true =>
  rw [hb] at hr
  have := Nat.eq_of_beq_eq_true hb
  subst this
  exact hH R args h κ r hr
theorem zKA_ {vals : List (Nat × Value)} {s : Nat} {v : Value} (h : frV vals s = some v) : (s, v) ∈ vals := by
 induction vals with
 | nil => cases h
 | cons p l ih =>
  simp only [frV, pset] at h
  cases hb : Nat.beq s p.1 with
  | false => rw [hb] at h; exact List.mem_cons_of_mem _ (ih h)
  | true =>
   rw [hb] at h
   have := Nat.eq_of_beq_eq_true hb
   simp only [cond_true, Option.some.injEq] at h
   subst h; subst this
   exact List.mem_cons_self ..
theorem zEy_ {L : zS_} {f : PFr} {e : Nat × Value} (h : e ∈ zVl_ L f) : f e.1 = some e.2 := by
 unfold zVl_ at h
 obtain ⟨st, _, h⟩ := List.mem_filterMap.1 h
 simp only [Option.map_eq_some_iff] at h
 obtain ⟨v, h1, rfl⟩ := h
 exact h1
theorem zUt_ : ∀ {L : zS_} {ps : List Nat} {n : Nat} {args : List Value} {f0 : PFr} {b : PFr → AHeap → Option R} {h : AHeap}, znk_ ps L n = true → appA L args (lamL L f0 b) h = some r →
  ∃ f1, b f1 h = some r ∧ args.length = ps.length ∧ ∀ (μ : BMap) (tmps : Array Value) (args' : List Value), FR μ f0 tmps → n ≤ tmps.size → VRs μ args args' → FR μ f1 ((ps.zip args').foldl (fun t x => t.setIfInBounds x.1 x.2) tmps)
 | [], [], n, [], f0, b, h, _, e => ⟨f0, e, rfl, fun μ tmps args' fr _ hv => by rw [hv.nil_inv]; exact fr⟩
 | [], [], n, _ :: _, f0, b, h, _, e => by simp [appA] at e
 | [], _ :: _, n, _, f0, b, h, hp, _ => by simp [znk_] at hp
 | (s, t) :: L, [], n, _, f0, b, h, hp, _ => by simp [znk_] at hp
 | (s, t) :: L, p :: ps, n, [], f0, b, h, _, e => by simp [appA] at e
 | (s, t) :: L, p :: ps, n, v :: args, f0, b, h, hp, e => by
  simp only [znk_, Bool.and_eq_true] at hp
  obtain ⟨⟨hp1, hp2⟩, hp3⟩ := hp
  have hps := Nat.eq_of_beq_eq_true hp1
  have hlt := Nat.le_of_ble_eq_true hp2
  subst hps
  simp only [appA, lamL, Option.bind_eq_some_iff] at e
  obtain ⟨x, hx, e⟩ := e
  obtain ⟨f1, h1, h2, h3⟩ := zUt_ hp3 e
  refine ⟨f1, h1, by simp [h2], fun μ tmps args' fr hsz hv => ?_⟩
  obtain ⟨v', args', rfl, hv1, hv2⟩ := hv.cons_inv
  simp only [List.zip_cons_cons, List.foldl_cons]
  refine h3 μ _ args' ?_ (by simpa using hsz) hv2
  rw [LTy.enc_dec hx]
  exact fr.set hv1 (by omega)
theorem zjA_ (ps : Array Tmp) (args : List Value) (tmps : Array Value) :
  (ps.zip ⟨args⟩).foldl (fun tmps (x : Tmp × Value) => tmps.setIfInBounds x.1 x.2) tmps = (ps.toList.zip args).foldl (fun t x => t.setIfInBounds x.1 x.2) tmps := by
 rw [← Array.foldl_toList]
 simp [Array.toList_zip]
theorem Step.same_at {μ μ' : BMap} {h h' : AHeap} {w w' : World} (st : Step G μ h w μ' h' w') {b : Nat} (hb : b < h.next) : μ' b = μ b := st.same b fun ⟨x, _⟩ => by omega
theorem zap_ {μ : BMap} {h : AHeap} {w : World} (s : Sim G μ h w) {b : Nat} {st : LoopState} {p : Option Code} {vals : List (Nat × Value)} {c : RfC} (hg : h.get b = some (.loop st p vals c)) :
  ∃ l d z r, μ b = some (l, d, z) ∧ w.heap[l]? = some (.loop r) ∧ r.state = st ∧ r.pending = p ∧ r.params = c.ps ∧ r.assign = c.assign ∧ r.body = c.body ∧ c.n ≤ r.tmps.size ∧ ∀ e ∈ vals, VR μ e.2 (r.tmps.getD e.1 undef) := by
 obtain ⟨l, d, z, O, h1, h2, h3⟩ := s.blk b _ hg
 cases O with
 | loop r => exact ⟨l, d, z, r, h1, h2, h3⟩
 | _ => exact (show False from h3).elim
theorem Step.rcd {μ : BMap} {h : AHeap} {w : World} (s : Sim G μ h w) {b : Nat} {st st' : LoopState} {p p' : Option Code} {vals : List (Nat × Value)} {c : RfC} (hg : h.get b = some (.loop st p vals c)) {l d z : Nat} {r : Loop}
  (hm : μ b = some (l, d, z)) (hO : w.heap[l]? = some (.loop r)) (h1 : r.params = c.ps) (h2 : r.assign = c.assign) (h3 : r.body = c.body) (h4 : c.n ≤ r.tmps.size) (h5 : ∀ e ∈ vals, VR μ e.2 (r.tmps.getD e.1 undef)) :
  Step G μ h w μ (h.set b (.loop st' p' vals c)) (w.putObj l (.loop { r with state := st', pending := p' })) :=
 Step.turn s hg rfl hm (World.putObj_heap_same (Array.getElem?_eq_some_iff.1 hO).1) (by unfold BR; exact ⟨rfl, rfl, h1, h2, h3, h4, h5⟩) rfl rfl rfl (by simp) fun i hi => World.putObj_heap_other hi
theorem zdz_ (hC : zf_ P G C) {n k : Nat} {c : RfC} {ps : zS_} {ra rb : RCode} (hn : c.n = n) (ha : zj_ P G n c.assign = some (zo_ ra)) (hb : zj_ P G n c.body = some (zo_ rb)) (hp : znk_ c.ps.toList ps n = true)
  (hsz : P.funcs.size ≤ 18446744073709551616) {vals : List (Nat × Value)} {b : Nat} : ∀ (R : Type) (args : List Value) (h : AHeap) (κ : Value → AHeap → Option R) (r : R),
  rfH vals c b (fun _ args h κ' => appA ps args (lamL ps (frV vals) fun f1 h => den C k ra f1 h fun e f2 h => match e with
    | .normal => rfB b h fun h => den C k rb f2 h fun e _ h => rfE b (zMx_ e) h κ'
    | _ => none) h) R args h κ = some r → ∃ v h', κ v h' = some r ∧ FnS P G (yk b) args h v h' := by
 intro R args h κ r hr
 unfold rfH at hr
 split at hr
 ·rename_i st0 p0 vals0 c0 hg0
  obtain ⟨⟨e1, e2⟩, hra⟩ := zti_ hr
  clear hr
  subst e1; subst e2
  obtain ⟨f1, hrb, hlen, hpar⟩ := zUt_ hp hra
  obtain ⟨e1, f2, h2, hr, hn1, run1⟩ := zIk_ hC ra _ f1 h _ r ha hrb
  cases e1 with
  | exit _ => cases hr
  | ret => cases hr
  | normal =>
   simp only at hr
   unfold rfB at hr
   split at hr
   ·rename_i p2 vals2 c2 hg2
    obtain ⟨e3, f3, h3, hr, hn3, run3⟩ := zIk_ hC rb _ f2 _ _ r hb hr
    unfold rfE at hr
    split at hr
    ·rename_i st3 p3 vals3 c3 hg3
     simp only [AHeap.next_set] at hn3
     refine ⟨_, _, hr, by simp only [AHeap.next_set]; omega, fun μ w args' s z hv rd o a next Q hnext => ?_⟩
     simp only [AHeap.next_set] at z
     have hblt := s.lt b _ hg0
     obtain ⟨l, d, zz, r0, m0, o0, _, _, a0, a1, a2, a3, a4⟩ := zap_ s hg0
     have hargs : (⟨args'⟩ : Array Value).size = r0.params.size := by
      have h1 : (⟨args'⟩ : Array Value).size = args'.length := rfl
      rw [h1, ← hv.1, hlen, a0, Array.length_toList]
     rw [zQp_ m0 hsz, run_yield o0 hargs, Oper.uponIn_round]
     refine ⟨fun q => by simp [Fd, Fence.wide] at q, roundIn_of_wpIn trivial ?_⟩
     rw [a1, a2, a0]
     have fr0 : FR μ (frV vals0) r0.tmps := fun s v hs => a4 _ (zKA_ hs)
     have fr1 := hpar μ r0.tmps args' fr0 (hn ▸ a3) hv
     have zle : ∀ {μ : BMap} {p m m' : Nat}, Zed μ p m' → m ≤ m' → Zed μ p m := fun z hle b hb1 hb2 => z b hb1 (by omega)
     have hsz0 : n ≤ ((c0.ps.toList.zip args').foldl (fun (t : Array Value) (x : Nat × Value) => t.setIfInBounds x.1 x.2) r0.tmps).size := by
      have : ∀ (l : List (Nat × Value)) (t : Array Value), (l.foldl (fun (t : Array Value) (x : Nat × Value) => t.setIfInBounds x.1 x.2) t).size = t.size := by
       intro l
       induction l with
       | nil => intro t; rfl
       | cons x l ih => intro t; simp [ih]
      rw [this, ← hn]; exact a3
     rw [zjA_]
     refine wpIn_mono (run1 (ds := []) (some l) μ { tmps := _, defers := [] } w ⟨s, fr1, rfl, hsz0⟩ (zle z (by omega))) ?_
     rintro x a' w' ⟨rfl, μ1, t1, st1⟩
     have mb1 : μ1 b = some (l, d, zz) := (st1.same_at hblt).trans m0
     obtain ⟨l', d', z', r1, m1, o1, q0, q1, b0, b1, b2, b3, b4⟩ := zap_ t1.sim hg2
     rw [mb1] at m1; cases m1
     show ∃ w₂, _ ∧ _
     refine ⟨_, run_beginRound o1 q0, ?_⟩
     have st2 : Step G μ1 h2 w' μ1 (h2.set b (.loop .busy p2 vals2 c2)) (w'.putObj l (.loop { r1 with state := .busy })) := by
      have := Step.rcd (st' := .busy) (p' := p2) t1.sim hg2 mb1 o1 b0 b1 b2 b3 b4
      rw [← q1] at this ⊢
      exact this
     have z1 := st1.zed z
     refine wpIn_mono (run3 (ds := []) (some l) μ1 a' _ ⟨st2.sim, t1.fr, t1.df, t1.sz⟩ (by simpa using z1)) ?_
     rintro x a'' w'' ⟨rfl, μ3, t3, st3⟩
     have mb3 : μ3 b = some (l, d, zz) := (st3.same_at (by simp; omega)).trans mb1
     obtain ⟨l', d', z', r3, m3, o3, _, _, d0, d1, d2, d3, d4⟩ := zap_ t3.sim hg3
     rw [mb3] at m3; cases m3
     have main : ∀ jump : Option Code, zMx_ e3 = jump → ∃ v w₃, (Instr.endRound l jump).run P w'' = .ok v w₃ ∧ next (a.put o.dst v) w₃ := fun jump hj => by
      refine ⟨_, _, run_endRound jump o3, hnext _ _ ⟨μ3, ?_, ?_⟩⟩
      ·rw [hj]; exact .bool _
      ·rw [hj]
       exact (st1.trans st2).trans (st3.trans (Step.rcd t3.sim hg3 mb3 o3 d0 d1 d2 d3 d4))
     cases e3 with
     | normal => exact main none rfl
     | ret => exact main _ rfl
     | exit i => exact main _ rfl
    ·cases hr
   ·cases hr
 ·cases hr
theorem appL_lam' {L : zS_} {f : PFr} {b : PFr → AHeap → Option R} {h : AHeap} (e : appL L f (lamL L noFr b) h = some r) : ∃ g, (∀ s v, g s = some v → f s = some v) ∧ b g h = some r := zCm_ (fun s v hv => by cases hv) e
theorem zDy_ {g : Nat} (h : zFt_ P g = true) : ∃ fn c, P.funcs[g]? = some fn ∧ fn.body = some c ∧ (fn.name == "runtime.NumGoroutine") = false := by
 unfold zFt_ at h
 split at h
 ·rename_i fn hf
  simp only [Bool.and_eq_true, Bool.not_eq_true'] at h
  obtain ⟨c, hc⟩ := Option.isSome_iff_exists.1 h.1
  exact ⟨fn, c, hf, hc, h.2⟩
 ·cases h
theorem zQu_ {s : Nat} : ∀ {l : List Nat}, memB s l = true → s ∈ l
 | [], h => by cases h
 | t :: l, h => by
  simp only [memB] at h
  cases hb : Nat.beq s t with
  | true => rw [Nat.eq_of_beq_eq_true hb]; exact List.mem_cons_self ..
  | false => rw [hb] at h; exact List.mem_cons_of_mem _ (zQu_ h)
theorem FnS.callsX {fn : Func} {g : FuncId} {c : Code} {args : List Value} {h h' : AHeap} {v : Value} (hF : FnS P G g args h v h') (hf : P.funcs[g]? = some fn) (hb : fn.body = some c) (hname : (fn.name == "runtime.NumGoroutine") = false)
  {μ : BMap} {w : World} {args' : List Value} (s : Sim G μ h w) (z : Zed μ h.next h'.next) (hv : VRs μ args args') :
  (callFunc g ⟨args'⟩).run P w = .ok (.enter g ⟨args'⟩) w ∧ Calls P g ⟨args'⟩ w fun e w' => ∃ v' μ', e = .returned v' ∧ VR μ' v v' ∧ Step G μ h w μ' h' w' := by
 have hcall : (callFunc g ⟨args'⟩).run P w = .ok (.enter g ⟨args'⟩) w := by
  have hne : ¬ fn.name = "runtime.NumGoroutine" := by simpa using hname
  simp [callFunc, hf, hne, hb]
 refine ⟨hcall, ?_⟩
 have := hF.2 μ w args' s z hv none ⟨some 0, .move (.tmp 0), 0, "", #[], none⟩ { tmps := #[undef], defers := [] }
  (fun a' w' => ∃ v' μ', a'.tmps = #[v'] ∧ VR μ' v v' ∧ Step G μ h w μ' h' w') (fun _ _ _ => False) (fun v' w' ⟨μ', h1, h2⟩ => ⟨v', μ', by simp [Act.put], h1, h2⟩)
 rw [zXe_ hf, hcall, Oper.uponIn_enter] at this
 refine Calls.mono (callsIn_wide.1 this.2) fun e w' he => ?_
 cases e with
 | returned u =>
  obtain ⟨v', μ', e, h1, h2⟩ := he
  simp [Act.put] at e
  subst e
  exact ⟨_, μ', rfl, h1, h2⟩
 | panicked ch => exact he.elim
 | outgrown => obtain ⟨_, _, hh⟩ := he; exact hh.elim
def zgE_ (P : Program) (Q : Exit → Act → World → Prop) (p : Option Code) (a : Act) (w : World) : Prop := match p with
 | none => Q .normal a w
 | some c => c.wpIn Fence.wide 0 P Q a w
theorem zoB_ {E : za_ → za_} (hC : zf_ P G C) (hE : ∀ D, zf_ P G D → zf_ P G (E D)) {n k : Nat} {its : List Nat} {L ps : zS_} {g : Operand} {c : RfC} {ra rb : RCode} (hn : c.n = n) (ha : zj_ P G n c.assign = some (zo_ ra)) (hb : zj_ P G n c.body = some (zo_ rb))
  (hg : opG G g = true) (hits : its.all (zFt_ P) = true) (hp : znk_ c.ps.toList ps n = true) (hsz : P.funcs.size ≤ 18446744073709551616) {f : PFr} {h : AHeap} {κ : AExit → PFr → AHeap → Option R} (hd : xden E C k (.rf its L g c ps ra rb) f h κ = some r) :
  ∃ e f' h', κ e f' h' = some r ∧ RunX P G n (.rangeFunc g c.ps c.assign c.body) f h e f' h' := by
 simp only [xden, Option.bind_eq_some_iff] at hd
 obtain ⟨gv, hgv, hd⟩ := hd
 obtain ⟨f0, hf0, hd⟩ := appL_lam' hd
 unfold rfS at hd
 split at hd
 ·rename_i gi first capt _
  cases hm : memB gi its with
  | false => rw [hm] at hd; cases hd
  | true =>
   rw [hm, cond_true] at hd
   obtain ⟨fn, cb, hfn, hbody, hname⟩ := zDy_ (List.all_eq_true.1 hits _ (zQu_ hm))
   obtain ⟨v, h2, hd, hF⟩ := hE _ (zkB_ hC (zdz_ hC (k := k) hn ha hb hp hsz)) R gi _ _ _ r hd
   split at hd
   ·rename_i st p vals' c' hget
    cases hbz : zay_ st with
    | true => rw [hbz] at hd; cases hd
    | false =>
     rw [hbz, cond_false] at hd
     have hn12 := hF.1
     simp only [AHeap.next_new] at hn12
     have main : ∀ (B0 : Nat) (ms : List Nat) (μ : BMap) (a : Act) (w : World), At (zWo_ ms) G μ f h n a w → MarksOk B0 ms w → B0 ≤ w.heap.size → Zed μ h.next h2.next → ∀ Q : Exit → Act → World → Prop,
       (∀ μ' ms' a' w', At (zWo_ ms') G μ' f (h2.kill h.next) n a' w' → MarksOk B0 ms' w' → Step G μ h w μ' (h2.kill h.next) w' → zgE_ P Q p a' w') →
       (Code.rangeFunc g c.ps c.assign c.body).wpIn Fence.wide 0 P Q a w := by
      intro B0 ms μ a w t mk hB z Q hQ
      refine wpIn_rangeFunc fun fnid _ => ?_
      have zn : μ h.next = none := z _ (Nat.le_refl _) (by omega)
      have s0 := Step.hide t.sim (.deferred (some []))
      have hgv' := zy_ t.sim t.fr hgv hg
      generalize heg : a.eval g = u at hgv'
      cases hgv' with
      | func q0 q1 q2 q3 q4 =>
       obtain ⟨q0, qlt⟩ := q0
       subst q0
       rename_i x' y'
       let rec0 : Loop := { state := .ready, pending := none, fn := fnid, tmps := a.tmps, params := c.ps, assign := c.assign, body := c.body, defers := w.heap.size }
       have frv : ∀ {ν : BMap}, BLe μ ν → ∀ e ∈ zVl_ L f0, VR ν e.2 (rec0.tmps.getD e.1 undef) := fun le e he => (t.fr _ _ (hf0 _ _ (zEy_ he))).mono le
       have le1 := BMap.put_le (p := (w.heap.size + 1, 0, 0)) zn
       have s1 : Step G μ h (w.alloc (.deferred (some []))) (μ.put h.next (w.heap.size + 1, 0, 0)) (h.new (.loop .ready none (zVl_ L f0) c)) ((w.alloc (.deferred (some []))).alloc (.loop rec0)) := by
        have := Step.new (B := .loop .ready none (zVl_ L f0) c) (O := .loop rec0) (z := 0) s0.sim zn (by
         unfold BR
         exact ⟨rfl, rfl, rfl, rfl, rfl, by rw [hn]; exact t.sz, frv (by simpa using le1)⟩)
        simpa using this
       have mb : (μ.put h.next (w.heap.size + 1, 0, 0)) h.next = some (w.heap.size + 1, 0, 0) := by simp [BMap.put]
       have hfirst : VRs μ first.toList x'.toList := ⟨by simpa using q1, fun i v v' a b => q3 i v v' (by simpa using a) (by simpa using b)⟩
       have hcapt : VRs μ capt.toList y'.toList := ⟨by simpa using q2, fun i v v' a b => q4 i v v' (by simpa using a) (by simpa using b)⟩
       have hargs : VRs (μ.put h.next (w.heap.size + 1, 0, 0)) (first.toList ++ (Value.func (.yield h.next) #[] #[] :: capt.toList)) (x'.toList ++ (Value.func (.yield (w.heap.size + 1)) #[] #[] :: y'.toList)) :=
        (hfirst.mono le1).append (.cons (.func ⟨_, _, _, mb, rfl⟩ rfl rfl (fun i v v' h => by simp at h) (fun i v v' h => by simp at h)) (hcapt.mono le1))
       have z1 := s1.zed z
       obtain ⟨hcall, hcalls⟩ := hF.callsX hfn hbody hname s1.sim (by simpa using z1) hargs
       refine ⟨w.heap.size + 1, _, _, ⟨.fn (.func gi) y', x' ++ #[.func (.yield (w.heap.size + 1)) #[] #[]]⟩, (w.alloc (.deferred (some []))).alloc (.loop rec0), gi, ⟨x'.toList ++ (Value.func (.yield (w.heap.size + 1)) #[] #[] :: y'.toList)⟩, _, run_enterLoop_outer _ _ _ _ _, ?_, fun _ _ => trivial, ?_, fun q => by simp [Fence.wide] at q, (callsIn_wide.2 hcalls).mono ?_⟩
       ·show Sem.run P (Deferred.ofValue (a.eval g) _) _ = _
        rw [heg]
        simp [Deferred.ofValue, Act.eval, rec0]
       ·rw [← hcall]
        simp only [invoke]
        congr 2
        apply Array.ext'
        simp
       ·rintro e w' ⟨v', μ', rfl, hv', st⟩
        have mb' : μ' h.next = some (w.heap.size + 1, 0, 0) := (st.same_at (by simp)).trans mb
        obtain ⟨l, d, zz, r1, m1, o1, p0, p1, p2, p3, p4, p5, p6⟩ := zap_ st.sim hget
        rw [mb'] at m1; cases m1
        have hnb : r1.state ≠ .busy := fun hb => by rw [p0] at hb; subst hb; cases hbz
        refine ⟨_, _, run_endLoop o1 hnb, ?_⟩
        have tr : Step G μ' h2 w' μ' (h2.kill h.next) (w'.putObj (w.heap.size + 1) (.loop { r1 with state := .exhausted })) := by
         have q := Step.rcd (st' := .exhausted) (p' := p) st.sim hget mb' o1 p2 p3 p4 p5 p6
         have := q.trans (Step.kill q.sim h.next)
         have e : (h2.set h.next (.loop .exhausted p vals' c')).kill h.next = h2.kill h.next := by
          simp only [AHeap.set, AHeap.kill]
          congr 1
          funext x
          split <;> rfl
         rw [e] at this
         rw [← p1] at this
         exact this
        have full := s0.trans (s1.trans (st.trans tr))
        have res := hQ μ' (w.heap.size :: ms) { a with defers := [{ target := .collected w.heap.size, args := #[] }] ++ a.defers } _ ⟨tr.sim, t.fr.mono (full.le (by simpa using z)), by simp [zWo_, t.df], t.sz⟩
         ⟨List.nodup_cons.2 ⟨fun hmem => by
          have := (Array.getElem?_eq_some_iff.1 (mk.lie _ hmem).2).1
          omega, mk.nd⟩, fun m hmem => by
          rcases List.mem_cons.1 hmem with rfl | hmem
          ·exact ⟨hB, Step.deferred s0.sim (s1.trans (st.trans tr)) (World.alloc_heap_new _ _)⟩
          ·exact (mk.step t.sim full).lie m hmem⟩ full
        rw [← p1] at res
        cases hpd : r1.pending with
        | none => rw [hpd] at res; exact res
        | some c0 => rw [hpd] at res; exact res
     replace hd : rfJ p (κ .normal f (h2.kill h.next)) (κ .ret f (h2.kill h.next)) (fun i => κ (.exit i) f (h2.kill h.next)) = some r := hd
     unfold rfJ at hd
     split at hd
     ·refine ⟨.normal, f, _, hd, by simp; omega, fun B0 ms μ a w t mk hB z => main B0 ms μ a w t mk hB (by simpa using z) _ fun μ' ms' a' w' t' mk' st' => ⟨rfl, μ', ms', t', mk', st'⟩⟩
     ·refine ⟨.ret, f, _, hd, by simp; omega, fun B0 ms μ a w t mk hB z => main B0 ms μ a w t mk hB (by simpa using z) _ fun μ' ms' a' w' t' mk' st' => wpIn_ret ⟨rfl, μ', ms', t', mk', st'⟩⟩
     ·refine ⟨.exit _, f, _, hd, by simp; omega, fun B0 ms μ a w t mk hB z => main B0 ms μ a w t mk hB (by simpa using z) _ fun μ' ms' a' w' t' mk' st' => wpIn_exit ⟨rfl, μ', ms', t', mk', st'⟩⟩
     ·cases hd
   ·cases hd
 ·cases hd
theorem zly_ {E : za_ → za_} (hC : zf_ P G C) (hE : ∀ D, zf_ P G D → zf_ P G (E D)) {n k : Nat} : ∀ (xc : XCode) (c : Code) (f : PFr) (h : AHeap) (κ : AExit → PFr → AHeap → Option R) (r : R), zfc_ P G n c = some (zDc_ xc) → xok P n xc = true → xden E C k xc f h κ = some r →
  ∃ e f' h', κ e f' h' = some r ∧ RunX P G n c f h e f' h' := by
 intro xc
 induction xc with
 | c rc =>
  intro c f h κ r hc _ hd
  have : zj_ P G n c = some (zo_ rc) := by
   cases c <;> simp only [zfc_, zDc_] at hc
   case seq a b =>
    cases hb : zPb_ a || zPb_ b with
    | true =>
     rw [hb, cond_true] at hc
     simp only [Option.bind_eq_some_iff, Option.map_eq_some_iff] at hc
     obtain ⟨x, _, y, _, e⟩ := hc; cases e
    | false => rw [hb, cond_false] at hc; simpa using hc
   case block i a =>
    cases hb : zPb_ a with
    | true =>
     rw [hb, cond_true] at hc
     simp only [Option.map_eq_some_iff] at hc
     obtain ⟨x, _, e⟩ := hc; cases e
    | false => rw [hb, cond_false] at hc; simpa using hc
   case scope a =>
    cases hb : zPb_ a with
    | true =>
     rw [hb, cond_true] at hc
     simp only [Option.map_eq_some_iff] at hc
     obtain ⟨x, _, e⟩ := hc; cases e
    | false => rw [hb, cond_false] at hc; simpa using hc
   case rangeFunc g ps a b =>
    cases hb : opG G g with
    | false => rw [hb] at hc; cases hc
    | true =>
     rw [hb, cond_true] at hc
     simp only [Option.bind_eq_some_iff, Option.map_eq_some_iff] at hc
     obtain ⟨x, _, y, _, e⟩ := hc; cases e
   all_goals simpa using hc
  obtain ⟨e, f', h', hk, hr⟩ := zIk_ hC rc c f h κ r this hd
  exact ⟨e, f', h', hk, hr.toX⟩
 | seq ra rb iha ihb =>
  intro c f h κ r hc hx hd
  obtain ⟨a, b, rfl, ha, hb⟩ : ∃ a b, c = .seq a b ∧ zfc_ P G n a = some (zDc_ ra) ∧ zfc_ P G n b = some (zDc_ rb) := by
   cases c <;> simp only [zfc_, zDc_] at hc <;> try (simp at hc; done)
   case seq a b =>
    cases hb : zPb_ a || zPb_ b with
    | true =>
     rw [hb, cond_true] at hc
     simp only [Option.bind_eq_some_iff, Option.map_eq_some_iff] at hc
     obtain ⟨x, hx1, y, hy1, e⟩ := hc; cases e; exact ⟨a, b, rfl, hx1, hy1⟩
    | false => rw [hb, cond_false] at hc; simp at hc
   case block i a => cases hb : zPb_ a <;> rw [hb] at hc <;> simp at hc
   case scope a => cases hb : zPb_ a <;> rw [hb] at hc <;> simp at hc
   case rangeFunc g ps a b =>
    cases hb : opG G g with
    | false => rw [hb] at hc; cases hc
    | true =>
     rw [hb, cond_true] at hc
     simp only [Option.bind_eq_some_iff, Option.map_eq_some_iff] at hc
     obtain ⟨x, _, y, _, e⟩ := hc; cases e
  simp only [xok, Bool.and_eq_true] at hx
  simp only [xden] at hd
  obtain ⟨e1, f1, h1, hk1, hn1, hr1⟩ := iha a f h _ r ha hx.1 hd
  cases e1 with
  | normal =>
   obtain ⟨e2, f2, h2, hk2, hn2, hr2⟩ := ihb b f1 h1 κ r hb hx.2 hk1
   refine ⟨e2, f2, h2, hk2, Nat.le_trans hn1 hn2, fun B0 ms μ a' w t mk hB z => ?_⟩
   refine wpIn_seq (wpIn_mono (hr1 B0 ms μ a' w t mk hB (z.le hn2)) ?_)
   rintro e a1 w1 ⟨rfl, μ1, ms1, t1, mk1, s1⟩
   refine wpIn_mono (hr2 B0 ms1 μ1 a1 w1 t1 mk1 (Nat.le_trans hB s1.size) (s1.zed z)) ?_
   rintro e a2 w2 ⟨rfl, μ2, ms2, t2, mk2, s2⟩
   exact ⟨rfl, μ2, ms2, t2, mk2, s1.trans s2⟩
  | exit i =>
   refine ⟨.exit i, f1, h1, hk1, hn1, fun B0 ms μ a' w t mk hB z => wpIn_seq (wpIn_mono (hr1 B0 ms μ a' w t mk hB z) ?_)⟩
   rintro e a1 w1 ⟨rfl, q⟩; exact ⟨rfl, q⟩
  | ret =>
   refine ⟨.ret, f1, h1, hk1, hn1, fun B0 ms μ a' w t mk hB z => wpIn_seq (wpIn_mono (hr1 B0 ms μ a' w t mk hB z) ?_)⟩
   rintro e a1 w1 ⟨rfl, q⟩; exact ⟨rfl, q⟩
 | block id ra iha =>
  intro c f h κ r hc hx hd
  obtain ⟨a, rfl, ha⟩ : ∃ a, c = .block id a ∧ zfc_ P G n a = some (zDc_ ra) := by
   cases c <;> simp only [zfc_, zDc_] at hc <;> try (simp at hc; done)
   case seq a b =>
    cases hb : zPb_ a || zPb_ b with
    | true =>
     rw [hb, cond_true] at hc
     simp only [Option.bind_eq_some_iff, Option.map_eq_some_iff] at hc
     obtain ⟨x, _, y, _, e⟩ := hc; cases e
    | false => rw [hb, cond_false] at hc; simp at hc
   case block i a =>
    cases hb : zPb_ a with
    | true =>
     rw [hb, cond_true] at hc
     simp only [Option.map_eq_some_iff] at hc
     obtain ⟨x, hx1, e⟩ := hc; cases e; exact ⟨a, rfl, hx1⟩
    | false => rw [hb, cond_false] at hc; simp at hc
   case scope a => cases hb : zPb_ a <;> rw [hb] at hc <;> simp at hc
   case rangeFunc g ps a b =>
    cases hb : opG G g with
    | false => rw [hb] at hc; cases hc
    | true =>
     rw [hb, cond_true] at hc
     simp only [Option.bind_eq_some_iff, Option.map_eq_some_iff] at hc
     obtain ⟨x, _, y, _, e⟩ := hc; cases e
  simp only [xden] at hd
  obtain ⟨e1, f1, h1, hk1, hn1, hr1⟩ := iha a f h _ r ha hx hd
  cases e1 with
  | normal =>
   refine ⟨.normal, f1, h1, hk1, hn1, fun B0 ms μ a' w t mk hB z => wpIn_block (wpIn_mono (hr1 B0 ms μ a' w t mk hB z) ?_)⟩
   rintro e a1 w1 ⟨rfl, q⟩; exact ⟨rfl, q⟩
  | ret =>
   refine ⟨.ret, f1, h1, hk1, hn1, fun B0 ms μ a' w t mk hB z => wpIn_block (wpIn_mono (hr1 B0 ms μ a' w t mk hB z) ?_)⟩
   rintro e a1 w1 ⟨rfl, q⟩; exact ⟨rfl, q⟩
  | exit i =>
   simp only at hk1
   cases hb : Nat.beq i id
   ·rw [hb] at hk1
    have hne : i ≠ id := fun e => by subst e; rw [Nat.beq_refl] at hb; cases hb
    refine ⟨.exit i, f1, h1, hk1, hn1, fun B0 ms μ a' w t mk hB z => wpIn_block (wpIn_mono (hr1 B0 ms μ a' w t mk hB z) ?_)⟩
    rintro e a1 w1 ⟨rfl, q⟩
    simp only [zIj_, Exit.inBlock, hne, if_false]
    exact ⟨trivial, q⟩
   ·rw [hb] at hk1
    have he : i = id := Nat.eq_of_beq_eq_true hb
    subst he
    refine ⟨.normal, f1, h1, hk1, hn1, fun B0 ms μ a' w t mk hB z => wpIn_block (wpIn_mono (hr1 B0 ms μ a' w t mk hB z) ?_)⟩
    rintro e a1 w1 ⟨rfl, q⟩
    simp only [zIj_, Exit.inBlock, if_true]
    exact ⟨trivial, q⟩
 | scope ra iha =>
  intro c f h κ r hc hx hd
  obtain ⟨a, rfl, ha⟩ : ∃ a, c = .scope a ∧ zfc_ P G n a = some (zDc_ ra) := by
   cases c <;> simp only [zfc_, zDc_] at hc <;> try (simp at hc; done)
   case seq a b =>
    cases hb : zPb_ a || zPb_ b with
    | true =>
     rw [hb, cond_true] at hc
     simp only [Option.bind_eq_some_iff, Option.map_eq_some_iff] at hc
     obtain ⟨x, _, y, _, e⟩ := hc; cases e
    | false => rw [hb, cond_false] at hc; simp at hc
   case scope a =>
    cases hb : zPb_ a with
    | true =>
     rw [hb, cond_true] at hc
     simp only [Option.map_eq_some_iff] at hc
     obtain ⟨x, hx1, e⟩ := hc; cases e; exact ⟨a, rfl, hx1⟩
    | false => rw [hb, cond_false] at hc; simp at hc
   case block i a => cases hb : zPb_ a <;> rw [hb] at hc <;> simp at hc
   case rangeFunc g ps a b =>
    cases hb : opG G g with
    | false => rw [hb] at hc; cases hc
    | true =>
     rw [hb, cond_true] at hc
     simp only [Option.bind_eq_some_iff, Option.map_eq_some_iff] at hc
     obtain ⟨x, _, y, _, e⟩ := hc; cases e
  simp only [xden] at hd
  obtain ⟨e1, f1, h1, hk1, hn1, hr1⟩ := iha a f h _ r ha hx hd
  refine ⟨e1, f1, h1, hk1, hn1, fun B0 ms μ a' w t mk hB z => zQh_ (wpIn_mono (hr1 B0 ms μ a' w t mk hB z) ?_)⟩
  rintro e a1 w1 ⟨rfl, q⟩
  cases e1 <;> exact ⟨rfl, q⟩
 | join L ra iha =>
  intro c f h κ r hc hx hd
  simp only [xden, zm_] at hd
  obtain ⟨e1, f1, h1, hk1, hn1, hr1⟩ := iha c f h _ r hc hx hd
  cases e1 with
  | normal =>
   obtain ⟨g, hg, hk⟩ := zCm_ (fun s v hv => by cases hv) hk1
   refine ⟨.normal, g, h1, hk, hn1, fun B0 ms μ a' w t mk hB z => wpIn_mono (hr1 B0 ms μ a' w t mk hB z) ?_⟩
   rintro e a1 w1 ⟨rfl, μ1, ms1, t1, mk1, s1⟩
   exact ⟨rfl, μ1, ms1, t1.weaken hg, mk1, s1⟩
  | exit i => exact ⟨.exit i, f1, h1, hk1, hn1, hr1⟩
  | ret => exact ⟨.ret, f1, h1, hk1, hn1, hr1⟩
 | rf its L g c0 ps ra rb =>
  intro c f h κ r hc hx hd
  simp only [xok, Bool.and_eq_true] at hx
  obtain ⟨⟨x1, x2⟩, x3⟩ := hx
  obtain ⟨hg, a, b, rfl, ha, hb, hn⟩ : opG G g = true ∧ ∃ a b, c = .rangeFunc g c0.ps c0.assign c0.body ∧ zj_ P G n c0.assign = some (zo_ ra) ∧ zj_ P G n c0.body = some (zo_ rb) ∧ c0.n = n := by
   cases c <;> simp only [zfc_, zDc_] at hc <;> try (simp at hc; done)
   case seq a b =>
    cases hb : zPb_ a || zPb_ b with
    | true =>
     rw [hb, cond_true] at hc
     simp only [Option.bind_eq_some_iff, Option.map_eq_some_iff] at hc
     obtain ⟨x, _, y, _, e⟩ := hc; cases e
    | false => rw [hb, cond_false] at hc; simp at hc
   case scope a => cases hb : zPb_ a <;> rw [hb] at hc <;> simp at hc
   case block i a => cases hb : zPb_ a <;> rw [hb] at hc <;> simp at hc
   case rangeFunc g ps a b =>
    cases hb : opG G g with
    | false => rw [hb] at hc; cases hc
    | true =>
     rw [hb, cond_true] at hc
     simp only [Option.bind_eq_some_iff, Option.map_eq_some_iff] at hc
     obtain ⟨x, hx1, y, hy1, e⟩ := hc
     cases e
     exact ⟨hb, a, b, rfl, hx1, hy1, rfl⟩
  exact zoB_ hC hE hn ha hb hg x1 x2 (Nat.le_of_ble_eq_true x3) hd
 | stuck =>
  intro c f h κ r hc hx hd
  simp [xden] at hd
theorem zzj_ {fn : Func} {tmps : Array Value} {R : Ending → World → Prop} {μ0 μ : BMap} {h0 h : AHeap} {w0 : World} : ∀ (ms : List Nat) (w : World), MarksOk w0.heap.size ms w → Step G μ0 h0 w0 μ h w →
  (∀ w', Step G μ0 h0 w0 μ h w' → LeavesIn Fence.wide 0 P fn tmps R [] .returning w') → LeavesInM Fence.wide 0 P fn tmps R (zWo_ ms) .returning w
 | [], w, _, st, k => k w st
 | m :: ms, w, mk, st, k => by
  obtain ⟨hB, hm⟩ := mk.lie m (List.mem_cons_self ..)
  obtain ⟨n1, n2⟩ := List.nodup_cons.1 mk.nd
  refine ⟨by simp, .inl ⟨m, _, rfl, run_takeDeferred hm, zzj_ ms _ ⟨n2, fun m' hm' => ?_⟩ (st.shut hm hB _) k⟩⟩
  obtain ⟨q1, q2⟩ := mk.lie m' (List.mem_cons_of_mem _ hm')
  exact ⟨q1, by rw [World.putObj_heap_other (by rintro rfl; exact n1 hm')]; exact q2⟩
noncomputable def zDt_ (E : za_ → za_) (C : za_) (k : Nat) (xc : XCode) (rs : zS_) (cs : List (Option LTy)) (args : List Value) (h : AHeap) : Option (TupT rs × AHeap) :=
 xden E C k xc (zlp_ args) h fun e f h => match e with
  | .exit _ => none
  | .normal => resT rs cs f h fun x => some (x, h)
  | .ret => resT rs cs f h fun x => some (x, h)
theorem zFD_ {E : za_ → za_} (hE : ∀ D, zf_ P G D → zf_ P G (E D)) {fn : Func} {g : FuncId} {c : Code} {xc : XCode} {rs : zS_} {cs : List (Option LTy)} {k : Nat} {args : List Value} {h h' : AHeap} {x : TupT rs} (hC : zf_ P G C) (hf : P.funcs[g]? = some fn) (hb : fn.body = some c)
  (hname : (fn.name == "runtime.NumGoroutine") = false) (hcode : zfc_ P G fn.ntmps c = some (zDc_ xc)) (hok : xok P fn.ntmps xc = true) (hres : zJd_ P fn.results.toList rs cs = true) (hd : zDt_ E C k xc rs cs args h = some (x, h')) :
  FnS P G g args h (retV (encT rs x)) h' := by
 unfold zDt_ at hd
 obtain ⟨e, f', h1, hk, hn, hrun⟩ := zly_ hC hE xc c (zlp_ args) h _ _ hcode hok hd
 have hex : (e = .normal ∨ e = .ret) ∧ resT rs cs f' h1 (fun x => some (x, h1)) = some (x, h') := by
  cases e with
  | normal => exact ⟨.inl rfl, hk⟩
  | ret => exact ⟨.inr rfl, hk⟩
  | exit i => simp at hk
 obtain ⟨he, hk⟩ := hex
 obtain ⟨x', hx', hR⟩ := zio_ hk
 simp only [Option.some.injEq, Prod.mk.injEq] at hx'
 obtain ⟨rfl, rfl⟩ := hx'
 refine ⟨hn, fun μ w args' s z hv rd o a next Q hnext => ?_⟩
 have hcall : (callFunc g ⟨args'⟩).run P w = .ok (.enter g ⟨args'⟩) w := by
  have hne : ¬ fn.name = "runtime.NumGoroutine" := by simpa using hname
  simp [callFunc, hf, hne, hb]
 rw [zXe_ hf]
 refine zyl_ ?_
 rw [hcall, Oper.upon_enter]
 refine callsIn_wide.1 (callsIn_of_wp_marks (F := Fence.wide) (n := 0) hf hb trivial (wpIn_mono (hrun w.heap.size [] μ _ w ⟨s, fun t v ht => ?_, rfl, ?_⟩ ⟨List.nodup_nil, fun m hm => nomatch hm⟩ (Nat.le_refl _) z) ?_))
 ·simp only [zlp_] at ht
  obtain ⟨v', q1, q2⟩ := hv.get ht
  have hlt : t < args'.length := (List.getElem?_eq_some_iff.1 q1).1
  rw [Array.getD_eq_getD_getElem?, Array.getElem?_append_left (by simpa using hlt)]
  have : (⟨args'⟩ : Array Value)[t]? = some v' := by simpa using q1
  rw [this]; exact q2
 ·simp; omega
 ·rintro y a1 w1 ⟨rfl, μ1, ms1, at1, mk1, st⟩
  rcases he with rfl | rfl
  ·show LeavesInM _ _ _ _ _ _ a1.defers _ _
   rw [at1.df]
   refine zzj_ ms1 w1 mk1 st fun w' st' => ?_
   obtain ⟨v', r1, r2⟩ := zSk_ (P := P) hres at1.fr st'.sim hR
   exact ⟨v', r1, hnext v' w' ⟨μ1, r2, st'⟩⟩
  ·show LeavesInM _ _ _ _ _ _ a1.defers _ _
   rw [at1.df]
   refine zzj_ ms1 w1 mk1 st fun w' st' => ?_
   obtain ⟨v', r1, r2⟩ := zSk_ (P := P) hres at1.fr st'.sim hR
   exact ⟨v', r1, hnext v' w' ⟨μ1, r2, st'⟩⟩
theorem zeA_ {E : za_ → za_} (hE : ∀ D, zf_ P G D → zf_ P G (E D)) {fn : Func} {id : FuncId} {xc : XCode} {ps rs : zS_} {cs : List (Option LTy)} {C : za_} {k : Nat} {f : FnL ps (AHeap → Option (TupT rs × AHeap))} (hC : zf_ P G C) (hf : P.funcs[id]? = some fn)
  (hname : (fn.name == "runtime.NumGoroutine") = false) (hcode : fn.body.bind (zfc_ P G fn.ntmps) = some (zDc_ xc)) (hok : xok P fn.ntmps xc = true) (hres : zJd_ P fn.results.toList rs cs = true)
  (hrfl : curF ps (fun args h => zDt_ E C k xc rs cs args h) = f) : zk_ P G (zn_ id ps rs f) := by
 cases hb : fn.body with
 | none => rw [hb] at hcode; cases hcode
 | some c =>
  rw [hb] at hcode
  intro R args h κ r hr
  simp only [zn_, Option.bind_eq_some_iff] at hr
  obtain ⟨⟨x, h'⟩, hx, hk⟩ := hr
  rw [← hrfl] at hx
  exact ⟨_, h', hk, zFD_ hE hC hf hb hname hcode hok hres (zHq_ hx)⟩
end
end Gx
namespace Gx
open Go
theorem zpC_ {R : Type} {b : Nat} {H : HdF} {C : za_} {vs : List Value} {h : AHeap} {κ : Value → AHeap → Option R} : ∀ {es : List Ent}, (∀ e ∈ es, e.id < 18446744073709551616) → zVc_ (mkC (yC b H C) es) (.func (.yield b) #[] #[]) vs h κ = H R vs h κ
 | [], _ => by
  show (bif Nat.beq (yk b) (yk b) then H R ([] ++ vs) h κ else C R (yk b) ([] ++ vs) h κ) = _
  rw [Nat.beq_refl]; rfl
 | e :: es, he => by
  have h1 := he e (List.mem_cons_self ..)
  have hb : Nat.beq (yk b) e.id = false := by
   cases hq : Nat.beq (yk b) e.id with
   | false => rfl
   | true =>
    have := Nat.eq_of_beq_eq_true hq
    unfold yk at this
    exact absurd h1 (Nat.not_lt.2 (this ▸ Nat.le_add_right _ _))
  show (bif Nat.beq (yk b) e.id then e.run R ([] ++ vs) h κ else mkC (yC b H C) es R (yk b) ([] ++ vs) h κ) = _
  rw [hb]
  exact zpC_ (es := es) fun e' h' => he e' (List.mem_cons_of_mem _ h')
theorem zED_ {vals : List (Nat × Value)} {c : RfC} {b : Nat} {H : HdF} {R : Type} {vs : List Value} {h : AHeap} {κ : Value → AHeap → Option R} {st : LoopState} {p : Option Code} (g : h.get b = some (.loop st p vals c)) : rfH vals c b H R vs h κ = H R vs h κ := by
 unfold rfH
 rw [g]
 exact zRk_ ⟨rfl, rfl⟩
theorem zBD_ {R : Type} {b : Nat} {h : AHeap} {κ : AHeap → Option R} {p : Option Code} {vals : List (Nat × Value)} {c : RfC} (g : h.get b = some (.loop .ready p vals c)) : rfB b h κ = κ (h.set b (.loop .busy p vals c)) := by
 unfold rfB; rw [g]
theorem zCD_ {R : Type} {b : Nat} {h : AHeap} {κ : Value → AHeap → Option R} {st : LoopState} {p q : Option Code} {vals : List (Nat × Value)} {c : RfC} (g : h.get b = some (.loop st p vals c)) : rfE b q h κ = κ (.bool q.isNone) (h.set b (.loop (if q.isNone then .ready else .done) q vals c)) := by
 unfold rfE; rw [g]
end Gx
namespace Gx
open Go Go.RowKit
def insF (sz bytes : Nat) (el : TypeId) (Z : List Value) (s : Slc) (i : Int) (v : Slc) (h : AHeap) : Option (Slc × AHeap) :=
 (Gx.subL sz s (some i) none none).bind fun _ =>
 (if ((v.len : Int) == 0) = true then some (s, h) else
 (if (i == (s.len : Int)) = true then
 (rdS sz v h).bind fun n3 =>
 (zl_ sz bytes el h s n3 v.len).bind fun r2 =>
 some (r2.1, r2.2)
 else
 (zpk_ s).bind fun c4 =>
 (if (decide ((IntKind.wrap .i64 ((s.len : Int) + (v.len : Int))) > c4)) = true then
 (Gx.subL sz s none (some i) none).bind fun l5 =>
 let t6 : Int := (IntKind.wrap .i64 ((IntKind.wrap .i64 ((s.len : Int) + (v.len : Int))) - i))
 (if 0 ≤ t6 ∧ t6 ≤ 281474976710656 ∧ t6 * bytes ≤ 281474976710656 then
 (zl_ sz bytes el h l5 (zu_ (t6).toNat Z) (t6).toNat).bind fun r7 =>
 (Gx.subL sz r7.1 (some i) none none).bind fun l8 =>
 (rdS sz v r7.2).bind fun n10 =>
 (zNb_ sz r7.2 l8 (min v.len l8.len) n10).bind fun h9 =>
 (Gx.subL sz r7.1 (some (IntKind.wrap .i64 (i + (v.len : Int)))) none none).bind fun l11 =>
 (Gx.subL sz s (some i) none none).bind fun l12 =>
 (rdS sz l12 h9).bind fun n14 =>
 (zNb_ sz h9 l11 (min l12.len l11.len) n14).bind fun h13 =>
 some (r7.1, h13)
 else none)
 else
 (Gx.subL sz s none (some (IntKind.wrap .i64 ((s.len : Int) + (v.len : Int)))) none).bind fun l15 =>
 (Gx.subL sz l15 (some (IntKind.wrap .i64 (i + (v.len : Int)))) none none).bind fun l16 =>
 (ovA v l16 h).bind fun _ =>
 (Gx.subL sz l15 (some (IntKind.wrap .i64 (i + (v.len : Int)))) none none).bind fun l19 =>
 (Gx.subL sz l15 (some i) none none).bind fun l20 =>
 (rdS sz l20 h).bind fun n22 =>
 (zNb_ sz h l19 (min l20.len l19.len) n22).bind fun h21 =>
 (Gx.subL sz l15 (some i) none none).bind fun l23 =>
 (rdS sz v h21).bind fun n25 =>
 (zNb_ sz h21 l23 (min v.len l23.len) n25).bind fun h24 =>
 some (l15, h24))))
def insC (sz : Nat) (c cv : List Value) (n i : Nat) : List Value := c.take (i * sz) ++ cv.take sz ++ (c.take (n * sz)).drop (i * sz)
def zKl_ (sz bytes : Nat) (el : TypeId) (s : Slc) (i : Int) (v : Slc) (h : AHeap) : Option (List Value × List Value × Nat × Nat) :=
 match s.a, v.a with
 | some a, some b => match h.get a.block, h.get b.block with
  | some (.cells c e true 0), some (.cells cv _ true 0) =>
   if a.block ≠ b.block ∧ a.off = 0 ∧ a.spot = some (sz + 1) ∧ b.off = 0 ∧ v.len = 1 ∧ 0 ≤ i ∧ i < s.len ∧ s.len * sz ≤ c.length ∧ e = el ∧ sz ≤ cv.length ∧ sz ≠ 0 ∧
    zI_ (cv.take sz) = true ∧ zI_ (c.take (s.len * sz)) = true ∧ 2 * (s.len + 1) * bytes ≤ 281474976710656 ∧ 1 ≤ bytes ∧ s.len ≤ s.cap then some (c, cv, a.block, b.block) else none
  | _, _ => none
 | _, _ => none
def insA (sz bytes : Nat) (el : TypeId) (F : Slc → Int → Slc → AHeap → Option (Slc × AHeap)) (s : Slc) (i : Int) (v : Slc) (h : AHeap) : Option (Slc × AHeap) :=
 match zKl_ sz bytes el s i v h with
 | some (c, cv, b, _) => some (⟨some ⟨h.next, 0, some (sz + 1)⟩, s.len + 1, s.len + 1⟩, (h.kill b).new (.cells (insC sz c cv s.len i.toNat) el true 0))
 | none => F s i v h
section
variable {G : Nat} {P : Program}
theorem zvm_ : ∀ {l : List Value}, zI_ l = true ↔ ∀ v ∈ l, one v = true
 | [] => by simp [zI_]
 | v :: l => by simp [zI_, zvm_ (l := l)]
theorem zEm_ {l m : List Value} (h : zI_ l = true) (hs : ∀ v ∈ m, v ∈ l) : zI_ m = true := zvm_.2 fun v hv => zvm_.1 h v (hs v hv)
theorem wr64 {x : Int} (h : -9223372036854775808 ≤ x ∧ x ≤ 9223372036854775807) : IntKind.wrap .i64 x = x := by rw [IntKind.wrap_i64]; omega
theorem zAi_ {h : AHeap} {b o : Nat} {c vs : List Value} {e : TypeId} (hb : h.get b = some (.cells c e true 0)) (hle : o + vs.length ≤ c.length) (h1 : zI_ vs = true) (hne : vs ≠ []) :
  h.wrL b o vs = some (h.set b (.cells (zx_ c o vs) e true 0)) := by
 cases vs with
 | nil => exact absurd rfl hne
 | cons v t =>
  unfold AHeap.wrL
  simp only [hb]
  rw [if_pos ⟨hle, Nat.zero_le _, h1⟩]
theorem zkf_ {h : AHeap} {b o n : Nat} {c : List Value} {e : TypeId} {r : Bool} {fz : Nat} (hb : h.get b = some (.cells c e r fz)) (hle : o + n ≤ c.length) : h.rdL b o n = some ((c.drop o).take n) := by
 unfold AHeap.rdL
 cases n with
 | zero => simp
 | succ n => simp only [hb]; rw [if_pos hle]
theorem zXx_ {A W v R : List Value} {k s r : Nat} (hA : A.length = k) (hv : v.length = s) (hW : W.length = s + r) (hR : R.length = r) : zx_ (zx_ (A ++ W) k v) (k + s) R = A ++ v ++ R := by
 have e1 : zx_ (A ++ W) k v = A ++ v ++ W.drop s := by
  unfold zx_
  rw [hv, ← hA, List.take_left, List.drop_append, List.drop_of_length_le (by omega)]
  simp
 have e2 : (A ++ v).length = k + s := by rw [List.length_append, hA, hv]
 have e3 : (W.drop s).length = r := by rw [List.length_drop]; omega
 rw [e1]
 unfold zx_
 rw [← e2, List.take_left, List.drop_of_length_le (by rw [List.length_append, e3, hR]; omega), List.append_nil]
theorem zch_ {sz b o n m lo : Nat} {sp : Option Nat} (hsp : spOk sp sz = true) (h1 : lo ≤ n) (h2 : n ≤ m) (h3 : lo < m) : Gx.subL sz (⟨some ⟨b, o, sp⟩, n, m⟩ : Slc) (some (lo : Int)) none none = some ⟨some ⟨b, o + lo * sz, sp⟩, n - lo, m - lo⟩ := by
 have e1 : ((n : Int) - lo).toNat = n - lo := by omega
 have e2 : ((m : Int) - lo).toNat = m - lo := by omega
 have e3 : ¬ ((m : Int) = (lo : Int)) := by omega
 simp only [Gx.subL, Option.getD_none, Option.getD_some, hsp, if_true, e1, e2, e3, if_false, Int.toNat_natCast]
 rw [if_pos (by omega)]
 rfl
theorem zfp_ {sz b o n m hi : Nat} {sp : Option Nat} (hsp : spOk sp sz = true) (h1 : hi ≤ m) : Gx.subL sz (⟨some ⟨b, o, sp⟩, n, m⟩ : Slc) none (some (hi : Int)) none = some ⟨some ⟨b, o, sp⟩, hi, m⟩ := by
 have e1 : ((hi : Int) - 0).toNat = hi := by omega
 have e2 : ((m : Int) - 0).toNat = m := by omega
 simp only [Gx.subL, Option.getD_none, Option.getD_some, hsp, if_true, e1, e2]
 rw [if_pos (by omega)]
 simp
variable {sz bytes : Nat} {el : TypeId} {Z : List Value}
theorem zLA_ {h : AHeap} {b vb n m i vc : Nat} {c cv : List Value} {e2 : TypeId} {spv : Option Nat} (hb : h.get b = some (.cells c el true 0)) (hv : h.get vb = some (.cells cv e2 true 0)) (hi : i < n) (hn : n * sz ≤ c.length) (hm : m < n + 1) (hnm : n ≤ m)
  (hcv : sz ≤ cv.length) (hz : sz ≠ 0) (hZ : Z.length = sz) (_hZ1 : zqb_ Z = true) (h1v : zI_ (cv.take sz) = true) (h1c : zI_ (c.take (n * sz)) = true) (hbig : 2 * (n + 1) * bytes ≤ 281474976710656) (hby : 1 ≤ bytes) (hbl : b < h.next) (hvl : vb < h.next) :
  ∃ h', insF sz bytes el Z ⟨some ⟨b, 0, none⟩, n, m⟩ i ⟨some ⟨vb, 0, spv⟩, 1, vc⟩ h = some (⟨some ⟨h.next, 0, some (sz + 1)⟩, n + 1, n + 1⟩, h') ∧ h'.next = h.next + 1 ∧ ∀ x, h'.get x = if x = h.next then some (.cells (insC sz c cv n i) el true 0) else h.get x := by
 have hsmall : n + 1 ≤ 140737488355328 := by
  have : n + 1 ≤ (n + 1) * bytes := Nat.le_mul_of_pos_right _ hby
  have : 2 * (n + 1) * bytes = 2 * ((n + 1) * bytes) := by rw [Nat.mul_assoc]
  omega
 have e1 : Gx.subL sz (⟨some ⟨b, 0, none⟩, n, m⟩ : Slc) (some (i : Int)) none none = some ⟨some ⟨b, i * sz, none⟩, n - i, m - i⟩ := by simpa using zch_ (sz := sz) (b := b) (o := 0) (sp := none) rfl (Nat.le_of_lt hi) hnm (by omega)
 have e2' : Gx.subL sz (⟨some ⟨b, 0, none⟩, n, m⟩ : Slc) none (some (i : Int)) none = some ⟨some ⟨b, 0, none⟩, i, m⟩ := zfp_ rfl (by omega)
 have ew : IntKind.wrap .i64 ((n : Int) + ((1 : Nat) : Int)) = (n : Int) + 1 := wr64 (by omega)
 have et : IntKind.wrap .i64 ((n : Int) + 1 - (i : Int)) = (n : Int) + 1 - i := wr64 (by omega)
 have etn : ((n : Int) + 1 - (i : Int)).toNat = n + 1 - i := by omega
 have hzl : (zu_ (n + 1 - i) Z).length = (n + 1 - i) * sz := by rw [zmc_]; simp [List.length_flatten, hZ]
 let c1 := c.take (i * sz) ++ zu_ (n + 1 - i) Z
 let h1 := h.new (.cells c1 el true 0)
 have hisz : i * sz ≤ n * sz := Nat.mul_le_mul_right _ (by omega)
 have hin : (i + 1) * sz ≤ n * sz := Nat.mul_le_mul_right _ (by omega)
 have esum : i * sz + (n + 1 - i) * sz = (n + 1) * sz := by rw [← Nat.add_mul]; congr 1; omega
 have esum2 : (i + 1) * sz + (n - i) * sz = (n + 1) * sz := by rw [← Nat.add_mul]; congr 1; omega
 have esum3 : i * sz + (n - i) * sz = n * sz := by rw [← Nat.add_mul]; congr 1; omega
 have es1 : (i + 1) * sz = i * sz + sz := by rw [Nat.add_mul]; omega
 have hc1 : c1.length = (n + 1) * sz := by simp only [c1, List.length_append, hzl, List.length_take]; omega
 have ea : zl_ sz bytes el h (⟨some ⟨b, 0, none⟩, i, m⟩ : Slc) (zu_ (n + 1 - i) Z) (n + 1 - i) = some (⟨some ⟨h.next, 0, some (sz + 1)⟩, i + (n + 1 - i), i + (n + 1 - i)⟩, h1) := by
  unfold zl_
  have h48 : 2 * (i + (n + 1 - i)) * bytes ≤ 281474976710656 := by rw [show i + (n + 1 - i) = n + 1 by omega]; exact hbig
  simp only
  rw [if_neg (by omega), if_pos ⟨h48, hby⟩, zkf_ hb (by omega)]
  simp [h1, c1]
 have e8 : Gx.subL sz (⟨some ⟨h.next, 0, some (sz + 1)⟩, i + (n + 1 - i), i + (n + 1 - i)⟩ : Slc) (some (i : Int)) none none = some ⟨some ⟨h.next, i * sz, some (sz + 1)⟩, n + 1 - i, n + 1 - i⟩ := by
  have := zch_ (sz := sz) (b := h.next) (o := 0) (n := i + (n + 1 - i)) (m := i + (n + 1 - i)) (lo := i) (sp := some (sz + 1)) (by simp [spOk]) (by omega) (Nat.le_refl _) (by omega)
  rw [this, show i + (n + 1 - i) - i = n + 1 - i by omega, Nat.zero_add]
 have hw2 : IntKind.wrap .i64 ((i : Int) + ((1 : Nat) : Int)) = ((i + 1 : Nat) : Int) := by rw [wr64 (by omega)]; omega
 have e11 : Gx.subL sz (⟨some ⟨h.next, 0, some (sz + 1)⟩, i + (n + 1 - i), i + (n + 1 - i)⟩ : Slc) (some ((i + 1 : Nat) : Int)) none none = some ⟨some ⟨h.next, (i + 1) * sz, some (sz + 1)⟩, n - i, n - i⟩ := by
  have := zch_ (sz := sz) (b := h.next) (o := 0) (n := i + (n + 1 - i)) (m := i + (n + 1 - i)) (lo := i + 1) (sp := some (sz + 1)) (by simp [spOk]) (by omega) (Nat.le_refl _) (by omega)
  rw [this, show i + (n + 1 - i) - (i + 1) = n - i by omega, Nat.zero_add]
 have hbn : b ≠ h.next := by omega
 have hvn : vb ≠ h.next := by omega
 have er1 : rdS sz (⟨some ⟨vb, 0, spv⟩, 1, vc⟩ : Slc) h1 = some (cv.take sz) := by
  simp only [rdS]
  rw [zkf_ (c := cv) (e := e2) (r := true) (fz := 0) (by simp [h1, hvn, hv]) (by omega)]
  simp
 have hcvl : (cv.take sz).length = sz := by simp; omega
 let c2 := zx_ c1 (i * sz) (cv.take sz)
 let h2 := h1.set h.next (.cells c2 el true 0)
 have ec1 : zNb_ sz h1 (⟨some ⟨h.next, i * sz, some (sz + 1)⟩, n + 1 - i, n + 1 - i⟩ : Slc) (min 1 (n + 1 - i)) (cv.take sz) = some h2 := by
  simp only [zNb_]
  rw [show min 1 (n + 1 - i) = 1 by omega, Nat.one_mul, List.take_of_length_le (by omega)]
  exact zAi_ (by simp [h1]) (by rw [hcvl, hc1]; omega) h1v (fun e => by rw [e] at hcvl; exact hz hcvl.symm)
 have hc2 : c2.length = (n + 1) * sz := by rw [← hc1]; exact zAb_ (by rw [hcvl, hc1]; omega)
 let R := (c.drop (i * sz)).take ((n - i) * sz)
 have hR : R.length = (n - i) * sz := by simp only [R, List.length_take, List.length_drop]; omega
 have er2 : rdS sz (⟨some ⟨b, i * sz, none⟩, n - i, m - i⟩ : Slc) h2 = some R := by
  simp only [rdS]
  rw [zkf_ (c := c) (e := el) (r := true) (fz := 0) (by simp [h2, h1, hbn, hb]) (by omega)]
 have h1R : zI_ R = true := zEm_ h1c fun v hv => by
  have e : R = (c.take (n * sz)).drop (i * sz) := by simp only [R]; rw [List.drop_take]; congr 1; omega
  rw [e] at hv
  exact List.mem_of_mem_drop hv
 have hRne : R ≠ [] := fun e => by
  rw [e] at hR
  have : 0 < (n - i) * sz := Nat.mul_pos (by omega) (by omega)
  simp at hR; omega
 have ec2 : zNb_ sz h2 (⟨some ⟨h.next, (i + 1) * sz, some (sz + 1)⟩, n - i, n - i⟩ : Slc) (min (n - i) (n - i)) R = some (h2.set h.next (.cells (zx_ c2 ((i + 1) * sz) R) el true 0)) := by
  simp only [zNb_, Nat.min_self]
  rw [List.take_of_length_le (by omega)]
  exact zAi_ (by simp [h2]) (by rw [hR, hc2]; omega) h1R hRne
 have fin : zx_ c2 ((i + 1) * sz) R = insC sz c cv n i := by
  have hAl : (c.take (i * sz)).length = i * sz := by rw [List.length_take]; omega
  have eR : R = (c.take (n * sz)).drop (i * sz) := by simp only [R]; rw [List.drop_take]; congr 1; omega
  unfold insC
  rw [← eR, es1]
  exact zXx_ hAl hcvl (by rw [hzl]; omega) hR
 refine ⟨h2.set h.next (.cells (zx_ c2 ((i + 1) * sz) R) el true 0), ?_, by simp [h2, h1], fun x => ?_⟩
 ·unfold insF
  rw [e1, Option.bind_some, if_neg (by simp), if_neg (by simp; omega)]
  simp only [zpk_, Option.bind_some]
  rw [ew, if_pos (by simp; omega), e2', Option.bind_some]
  simp only [et]
  rw [if_pos (by
   refine ⟨by omega, by omega, ?_⟩
   have a1 : (n + 1 - i) * bytes ≤ (n + 1) * bytes := Nat.mul_le_mul_right _ (by omega)
   have a2 : 2 * (n + 1) * bytes = 2 * ((n + 1) * bytes) := by rw [Nat.mul_assoc]
   have a3 : ((n : Int) + 1 - i) * (bytes : Int) = (((n + 1 - i) * bytes : Nat) : Int) := by rw [Int.natCast_mul]; congr 1; omega
   rw [a3]; omega), etn, ea, Option.bind_some]
  simp only [e8, Option.bind_some, er1, ec1, hw2, e11, er2, ec2]
  rw [show i + (n + 1 - i) = n + 1 by omega]
 ·simp only [h2, h1, AHeap.get_set, AHeap.get_new]
  by_cases hx : x = h.next
  ·simp [hx, fin]
  ·simp [hx]
theorem zOB_ {h : AHeap} {b vb n m i vc : Nat} {c cv : List Value} {e2 : TypeId} {spv : Option Nat} (hb : h.get b = some (.cells c el true 0)) (hv : h.get vb = some (.cells cv e2 true 0)) (hne : vb ≠ b) (hi : i < n) (hn : (n + 1) * sz ≤ c.length) (hm : n + 1 ≤ m) (hm2 : n + 1 ≤ 140737488355328)
  (hcv : sz ≤ cv.length) (hz : sz ≠ 0) (h1v : zI_ (cv.take sz) = true) (h1c : zI_ (c.take (n * sz)) = true) :
  ∃ h' c', insF sz bytes el Z ⟨some ⟨b, 0, none⟩, n, m⟩ i ⟨some ⟨vb, 0, spv⟩, 1, vc⟩ h = some (⟨some ⟨b, 0, none⟩, n + 1, m⟩, h') ∧ h'.next = h.next ∧ (∀ x, h'.get x = if x = b then some (.cells c' el true 0) else h.get x) ∧ c'.take ((n + 1) * sz) = insC sz c cv n i ∧ c'.length = c.length := by
 have e0 : Gx.subL sz (⟨some ⟨b, 0, none⟩, n, m⟩ : Slc) (some (i : Int)) none none = some ⟨some ⟨b, i * sz, none⟩, n - i, m - i⟩ := by
  simpa using zch_ (sz := sz) (b := b) (o := 0) (sp := none) rfl (Nat.le_of_lt hi) (by omega) (by omega)
 have ew : IntKind.wrap .i64 ((n : Int) + ((1 : Nat) : Int)) = ((n + 1 : Nat) : Int) := by rw [wr64 (by omega)]; omega
 have hw2 : IntKind.wrap .i64 ((i : Int) + ((1 : Nat) : Int)) = ((i + 1 : Nat) : Int) := by rw [wr64 (by omega)]; omega
 have e15 : Gx.subL sz (⟨some ⟨b, 0, none⟩, n, m⟩ : Slc) none (some ((n + 1 : Nat) : Int)) none = some ⟨some ⟨b, 0, none⟩, n + 1, m⟩ := zfp_ rfl hm
 have e16 : Gx.subL sz (⟨some ⟨b, 0, none⟩, n + 1, m⟩ : Slc) (some ((i + 1 : Nat) : Int)) none none = some ⟨some ⟨b, (i + 1) * sz, none⟩, n - i, m - (i + 1)⟩ := by
  have := zch_ (sz := sz) (b := b) (o := 0) (n := n + 1) (m := m) (lo := i + 1) (sp := none) rfl (by omega) hm (by omega)
  rw [this, show n + 1 - (i + 1) = n - i by omega, Nat.zero_add]
 have e20 : Gx.subL sz (⟨some ⟨b, 0, none⟩, n + 1, m⟩ : Slc) (some (i : Int)) none none = some ⟨some ⟨b, i * sz, none⟩, n + 1 - i, m - i⟩ := by
  simpa using zch_ (sz := sz) (b := b) (o := 0) (n := n + 1) (m := m) (lo := i) (sp := none) rfl (by omega) hm (by omega)
 have esum : i * sz + (n + 1 - i) * sz = (n + 1) * sz := by rw [← Nat.add_mul]; congr 1; omega
 have esum2 : (i + 1) * sz + (n - i) * sz = (n + 1) * sz := by rw [← Nat.add_mul]; congr 1; omega
 have esum3 : i * sz + (n - i) * sz = n * sz := by rw [← Nat.add_mul]; congr 1; omega
 have es1 : (i + 1) * sz = i * sz + sz := by rw [Nat.add_mul]; omega
 have es2 : (n + 1) * sz = n * sz + sz := by rw [Nat.add_mul]; omega
 have hcvl : (cv.take sz).length = sz := by rw [List.length_take]; omega
 have hcne : c ≠ [] := fun e => by
  rw [e] at hn
  have : 0 < sz := by omega
  simp at hn; omega
 have hov : ovA (⟨some ⟨vb, 0, spv⟩, 1, vc⟩ : Slc) (⟨some ⟨b, (i + 1) * sz, none⟩, n - i, m - (i + 1)⟩ : Slc) h = some () := by
  unfold ovA
  simp only [hb, hv]
  rw [if_pos ⟨hne, by omega, by omega, hcne⟩]
 let R := (c.drop (i * sz)).take ((n - i) * sz)
 have hR : R.length = (n - i) * sz := by simp only [R, List.length_take, List.length_drop]; omega
 have eR : R = (c.take (n * sz)).drop (i * sz) := by simp only [R]; rw [List.drop_take]; congr 1; omega
 have h1R : zI_ R = true := zEm_ h1c fun v hv => by
  rw [eR] at hv
  exact List.mem_of_mem_drop hv
 have hRne : R ≠ [] := fun e => by
  rw [e] at hR
  have : 0 < (n - i) * sz := Nat.mul_pos (by omega) (by omega)
  simp at hR; omega
 have er20 : rdS sz (⟨some ⟨b, i * sz, none⟩, n + 1 - i, m - i⟩ : Slc) h = some ((c.drop (i * sz)).take ((n + 1 - i) * sz)) := by
  simp only [rdS]
  rw [zkf_ hb (by omega)]
 let h1 := h.set b (.cells (zx_ c ((i + 1) * sz) R) el true 0)
 have hmin : min (n + 1 - i) (n - i) = n - i := by omega
 have ec1 : zNb_ sz h (⟨some ⟨b, (i + 1) * sz, none⟩, n - i, m - (i + 1)⟩ : Slc) (min (n + 1 - i) (n - i)) ((c.drop (i * sz)).take ((n + 1 - i) * sz)) = some h1 := by
  simp only [zNb_, hmin]
  rw [List.take_take, Nat.min_eq_left (Nat.mul_le_mul_right _ (by omega))]
  exact zAi_ hb (by rw [show ((c.drop (i * sz)).take ((n - i) * sz)).length = (n - i) * sz from hR]; omega) h1R hRne
 have hl1 : (zx_ c ((i + 1) * sz) R).length = c.length := zAb_ (by rw [hR]; omega)
 have er25 : rdS sz (⟨some ⟨vb, 0, spv⟩, 1, vc⟩ : Slc) h1 = some (cv.take sz) := by
  simp only [rdS]
  rw [zkf_ (c := cv) (e := e2) (r := true) (fz := 0) (by simp [h1, hne, hv]) (by omega)]
  simp
 have ec2 : zNb_ sz h1 (⟨some ⟨b, i * sz, none⟩, n + 1 - i, m - i⟩ : Slc) (min 1 (n + 1 - i)) (cv.take sz) = some (h1.set b (.cells (zx_ (zx_ c ((i + 1) * sz) R) (i * sz) (cv.take sz)) el true 0)) := by
  simp only [zNb_]
  rw [show min 1 (n + 1 - i) = 1 by omega, Nat.one_mul, List.take_of_length_le (by omega)]
  exact zAi_ (by simp [h1]) (by rw [hcvl, hl1]; omega) h1v (fun e => by rw [e] at hcvl; exact hz hcvl.symm)
 refine ⟨h1.set b (.cells (zx_ (zx_ c ((i + 1) * sz) R) (i * sz) (cv.take sz)) el true 0), zx_ (zx_ c ((i + 1) * sz) R) (i * sz) (cv.take sz), ?_, by simp [h1], fun x => ?_, ?_, ?_⟩
 ·unfold insF
  rw [e0, Option.bind_some, if_neg (by simp), if_neg (by simp; omega)]
  simp only [zpk_, Option.bind_some]
  rw [ew, if_neg (by simp; omega), e15, Option.bind_some]
  simp only [hw2, e16, Option.bind_some, hov, e20, er20, ec1, er25, ec2]
 ·simp only [h1, AHeap.get_set]
  by_cases hx : x = b
  ·rw [if_pos hx, if_pos hx]
  ·rw [if_neg hx, if_neg hx, if_neg hx]
 ·have hl2 : (zx_ (zx_ c ((i + 1) * sz) R) (i * sz) (cv.take sz)).length = c.length := by rw [zAb_ (by rw [hcvl, hl1]; omega), hl1]
  have hAl : (c.take (i * sz)).length = i * sz := by rw [List.length_take]; omega
  have el1 : (c.take (i * sz) ++ cv.take sz).length = (i + 1) * sz := by rw [List.length_append, hAl, hcvl]; omega
  unfold insC
  rw [← eR]
  apply List.ext_getElem?
  intro j
  rw [List.getElem?_take]
  by_cases j0 : j < (n + 1) * sz
  ·rw [if_pos j0, zld_ (by rw [hcvl, hl1]; omega), hcvl]
   by_cases j1 : j < i * sz
   ·rw [if_pos j1, zld_ (by rw [hR]; omega), if_pos (by omega), List.getElem?_append_left (by rw [el1]; omega), List.getElem?_append_left (by rw [hAl]; omega), List.getElem?_take, if_pos j1]
   ·rw [if_neg j1]
    by_cases j2 : j < i * sz + sz
    ·rw [if_pos j2, List.getElem?_append_left (by rw [el1]; omega), List.getElem?_append_right (by rw [hAl]; omega), hAl]
    ·rw [if_neg j2, zld_ (by rw [hR]; omega), if_neg (by omega), hR, if_pos (by omega), List.getElem?_append_right (by rw [el1]; omega), el1]
  ·rw [if_neg j0, List.getElem?_eq_none (by rw [List.length_append, el1, hR]; omega)]
 ·rw [zAb_ (by rw [hcvl, hl1]; omega), hl1]
theorem AHeap.ext' {h h' : AHeap} (hn : h.next = h'.next) (hg : ∀ x, h.get x = h'.get x) : h = h' := by
 cases h; cases h'
 simp only at hn hg
 subst hn
 congr 1
 funext x
 exact hg x
def eIns (id : FuncId) (rt : Nat) (sz bytes : Nat) (el : TypeId) (F : Slc → Int → Slc → AHeap → Option (Slc × AHeap)) : Ent :=
 zn_ id [(0, .l), (1, .i .i64), (2, .l)] [(rt, .l)] (insA sz bytes el F)
theorem zLy_ {X : Type} {args : List Value} {F : Slc → Int → Slc → AHeap → Option X} {h : AHeap} {r : X} (e : appA [(0, .l), (1, .i .i64), (2, .l)] args F h = some r) :
  ∃ s i v, args = [.slice s.a s.len s.cap, .int .i64 i, .slice v.a v.len v.cap] ∧ F s i v h = some r := by
 match args with
 | [] => simp [appA] at e
 | [_] => simp [appA] at e
 | [_, _] => simp [appA] at e
 | [v0, v1, v2] =>
  simp only [appA, Option.bind_eq_some_iff] at e
  obtain ⟨s, h0, i, h1, v, h2, e⟩ := e
  refine ⟨s, i, v, ?_, e⟩
  rw [← LTy.enc_dec h0, ← LTy.enc_dec h1, ← LTy.enc_dec h2]
  rfl
 | _ :: _ :: _ :: _ :: _ =>
  simp only [appA, Option.bind_eq_some_iff] at e
  obtain ⟨s, h0, i, h1, v, h2, e⟩ := e
  cases e
theorem zPD_ {id : FuncId} {rt : Nat} {F : Slc → Int → Slc → AHeap → Option (Slc × AHeap)} (hF : zk_ P G (zn_ id [(0, .l), (1, .i .i64), (2, .l)] [(rt, .l)] F)) (hFe : F = insF sz bytes el Z) (hZ : Z.length = sz) (hZ1 : zqb_ Z = true) :
  zk_ P G (eIns id rt sz bytes el F) := by
 intro R args h κ r hr
 simp only [eIns, zn_, Option.bind_eq_some_iff] at hr
 obtain ⟨⟨t, h'⟩, hA, hk⟩ := hr
 obtain ⟨s, i, v, ea, hB⟩ := zLy_ hA
 clear hA
 subst ea
 have hA : insA sz bytes el F s i v h = some (t, h') := hB
 clear hB
 unfold insA at hA
 split at hA
 case h_2 =>
  refine hF R _ h κ r ?_
  show ((F s i v h).bind fun r => κ _ r.2) = some r
  rw [hA]; exact hk
 rename_i c cv b0 vb0 hok
 cases hA
 unfold zKl_ at hok
 split at hok
 case h_2 => cases hok
 rename_i a bd ha hbd
 split at hok
 case h_2 => cases hok
 rename_i cc e cvv e2 hget hgetv
 split at hok
 case isFalse => cases hok
 rename_i hc
 cases hok
 obtain ⟨hne, ho, hsp, hvo, hv1, hi0, hin, hlen, rfl, hcv, hz, h1v, h1c, hbig, hby, hncap⟩ := hc
 obtain ⟨sa, n, m⟩ := s
 obtain ⟨va, vn, vc⟩ := v
 simp only at ha hbd hv1 hin hlen h1c hbig hncap hk ⊢
 subst ha; subst hbd; subst hv1
 obtain ⟨b, o, sp⟩ := a
 obtain ⟨vb, vo, spv⟩ := bd
 simp only at ho hsp hvo hne hget hgetv hk ⊢
 subst ho; subst hsp; subst hvo
 obtain ⟨i, rfl⟩ := Int.eq_ofNat_of_zero_le hi0
 have hin' : i < n := by omega
 refine ⟨_, _, hk, by simp, fun μ w args' sm z hv => ?_⟩
 have zn : μ h.next = none := z h.next (Nat.le_refl _) (by simp)
 obtain ⟨x0, x1, x2, rfl, q0, q1, q2⟩ := hv.three_inv
 have := zhl_ q1; subst this
 cases q0 with
 | empty _ => omega
 | slice hm hcap =>
  rename_i cb d zz m'
  obtain ⟨hmm, hmz⟩ := hcap
  obtain ⟨c', lo, hi, hO, hzz, hcc, hrw⟩ := sm.obj hget hm
  obtain ⟨rfl, hfz, hmk⟩ := hrw rfl
  simp only [Nat.zero_add] at hmz hcc q2 ⊢
  have himg := (hmk (by decide)).2
  have hex : ∀ l : List Value, (∀ x ∈ l, ∃ v, VR μ v x) → ∃ l0 : List Value, VRs μ l0 l := by
   intro l
   induction l with
   | nil => intro _; exact ⟨[], .nil μ⟩
   | cons x l ih =>
    intro hx
    obtain ⟨v, hv⟩ := hx x List.mem_cons_self
    obtain ⟨l0, h0⟩ := ih fun y hy => hx y (List.mem_cons_of_mem _ hy)
    exact ⟨v :: l0, .cons hv h0⟩
  obtain ⟨l0, hl0⟩ := hex (c'.toList.drop c.length) fun x hx => himg x (List.mem_of_mem_drop hx)
  have hle : c.length ≤ c'.size := by
   cases hcl : c.length with
   | zero => omega
   | succ k =>
    have hk1 : k < c.length := by omega
    obtain ⟨v', h1, _⟩ := hcc k _ (List.getElem?_eq_getElem hk1)
    have := (Array.getElem?_eq_some_iff.1 h1).1
    omega
  have hl0l : l0.length = c'.size - c.length := by have := hl0.1; simp at this; omega
  let cX := c ++ l0
  let hX := h.set b (.cells cX e true 0)
  have hXl : cX.length = c'.size := by simp only [cX, List.length_append]; omega
  have hcX : ∀ (j : Nat) (v : Value), cX[j]? = some v → ∃ v', c'[j]? = some v' ∧ VR μ v v' := by
   intro j v hj
   simp only [cX] at hj
   by_cases hjl : j < c.length
   ·rw [List.getElem?_append_left hjl] at hj
    exact hcc j v hj
   ·rw [List.getElem?_append_right (by omega)] at hj
    obtain ⟨v', h1, h2⟩ := hl0.get hj
    refine ⟨v', ?_, h2⟩
    rw [List.getElem?_drop, show c.length + (j - c.length) = j by omega] at h1
    simpa using h1
  have st0 : Step G μ h w μ hX w := Step.turn sm hget rfl hm hO ⟨rfl, hzz, fun j v hj => by simpa using hcX j v hj, fun _ => ⟨rfl, hfz, hmk⟩, fun q => by cases q⟩ rfl rfl rfl rfl (fun _ _ => rfl)
  have hbl : b < h.next := sm.lt _ _ hget
  have hvl : vb < h.next := sm.lt _ _ hgetv
  have hgX : hX.get b = some (.cells cX e true 0) := by simp [hX]
  have hgvX : hX.get vb = some (.cells cv e2 true 0) := by simp [hX, Ne.symm hne, hgetv]
  have etk : cX.take (n * sz) = c.take (n * sz) := by simp only [cX]; rw [List.take_append_of_le_length hlen]
  have hisz : i * sz ≤ n * sz := Nat.mul_le_mul_right _ (by omega)
  have eins : insC sz cX cv n i = insC sz c cv n i := by
   unfold insC
   rw [etk, show cX.take (i * sz) = c.take (i * sz) by simp only [cX]; rw [List.take_append_of_le_length (by omega)]]
  have hargs2 : VRs μ [.slice (some ⟨b, 0, none⟩) n m', .int .i64 (i : Int), .slice (some ⟨vb, 0, spv⟩) 1 vc] [.slice (some ⟨cb, 0, none⟩) n m', .int .i64 (i : Int), x2] := by
   refine .cons ?_ (.cons (.int _ _) (.cons q2 (.nil μ)))
   have := VR.slice (μ := μ) (b := b) (o := 0) (sp := none) (n := n) (m := m') (m' := m') hm rfl
   simpa using this
  have hnm' : n ≤ m' := by omega
  have key : ∀ (t2 : Slc) (h2 : AHeap), insF sz bytes e Z ⟨some ⟨b, 0, none⟩, n, m'⟩ (i : Int) ⟨some ⟨vb, 0, spv⟩, 1, vc⟩ hX = some (t2, h2) →
    FnS P G id [.slice (some ⟨b, 0, none⟩) n m', .int .i64 (i : Int), .slice (some ⟨vb, 0, spv⟩) 1 vc] hX (.slice t2.a t2.len t2.cap) h2 := by
   intro t2 h2 e0
   obtain ⟨v, h3, hk2, hFn⟩ := hF (Value × AHeap) [.slice (some ⟨b, 0, none⟩) n m', .int .i64 (i : Int), .slice (some ⟨vb, 0, spv⟩) 1 vc] hX (fun v h => some (v, h)) (.slice t2.a t2.len t2.cap, h2) (by
    show ((F ⟨some ⟨b, 0, none⟩, n, m'⟩ (i : Int) ⟨some ⟨vb, 0, spv⟩, 1, vc⟩ hX).bind fun r => some (_, r.2)) = _
    rw [hFe, e0]; rfl)
   cases hk2
   exact hFn
  by_cases hroom : n + 1 ≤ m'
  ·have hmul : (n + 1) * sz ≤ m' * sz := Nat.mul_le_mul_right _ hroom
   have hsmall : n + 1 ≤ 140737488355328 := by
    have : n + 1 ≤ (n + 1) * bytes := Nat.le_mul_of_pos_right _ hby
    have : 2 * (n + 1) * bytes = 2 * ((n + 1) * bytes) := by rw [Nat.mul_assoc]
    omega
   obtain ⟨h3, c3, e3, n3, g3, t3, l3⟩ := zOB_ (Z := Z) (bytes := bytes) (vc := vc) (spv := spv) hgX hgvX (Ne.symm hne) hin' (by omega) hroom hsmall hcv hz h1v (by rw [etk]; exact h1c)
   have hFn := key _ _ e3
   intro rd ox ax next Q hnext
   refine hFn.2 μ w _ st0.sim (fun x hx hx2 => absurd hx2 (by rw [n3]; omega)) hargs2 rd ox ax next Q ?_
   rintro v' w' ⟨μ', hv', st1⟩
   have eμ : μ' = μ := funext fun x => st1.same x (by rw [n3]; omega)
   subst eμ
   have hg3 : h3.get b = some (.cells c3 e true 0) := by rw [g3, if_pos rfl]
   obtain ⟨c4, lo4, hi4, hO4, hz4, hcc4, hrw4⟩ := st1.sim.obj hg3 hm
   obtain ⟨_, hfz4, hmk4⟩ := hrw4 rfl
   have hn3 : h3.next = h.next := by rw [n3]; simp [hX]
   have st2 := Step.over (d' := 0) st1.sim (by rw [hn3]; exact zn) hg3 rfl hm hO4 (B' := .cells (insC sz c cv n i) e true 0) (by
    refine ⟨rfl, hz4, fun j v hj => ?_, fun _ => ⟨rfl, hfz4, fun mm => ⟨(hmk4 mm).1, fun x hx => let ⟨v, q⟩ := (hmk4 mm).2 x hx; ⟨v, q.mono (BMap.put_le (by rw [hn3]; exact zn))⟩⟩⟩, fun q => by cases q⟩
    rw [← eins, ← t3, List.getElem?_take] at hj
    split at hj
    ·obtain ⟨v', p1, p2⟩ := hcc4 j v hj
     exact ⟨v', by simpa using p1, p2.mono (BMap.put_le (by rw [hn3]; exact zn))⟩
    ·cases hj) rfl rfl rfl rfl (fun _ _ => rfl)
   have hfin : (h3.kill b).new (.cells (insC sz c cv n i) e true 0) = (h.kill b).new (.cells (insC sz c cv n i) e true 0) := by
    apply AHeap.ext'
    ·simp [hn3]
    ·intro x
     simp only [AHeap.get_new, AHeap.get_kill, AHeap.next_kill, hn3, g3]
     by_cases hx : x = h.next
     ·simp [hx]
     ·by_cases hx2 : x = b
      ·simp [hx2]
      ·simp [hx, hx2, hX]
   rw [hfin] at st2
   refine hnext v' w' ⟨_, ?_, (st0.trans st1).trans st2⟩
   cases hv' with
   | slice hm' hcap' =>
    rename_i cb' d' z' m''
    rw [hm] at hm'; cases hm'
    have : m'' = m' := hcap'
    subst this
    have := VR.slice (μ := μ'.put h3.next (cb, 0, zz)) (b := h.next) (o := 0) (c := cb) (d := 0) (z := zz) (n := n + 1) (m := n + 1) (m' := m'') (sp := some (sz + 1)) (by simp [BMap.put, hn3]) ⟨hroom, by omega⟩
    show VR _ (.slice (some ⟨h.next, 0, some (sz + 1)⟩) (n + 1) (n + 1)) _
    simpa using this
  ·obtain ⟨h3, e3, n3, g3⟩ := zLA_ (Z := Z) (bytes := bytes) (vc := vc) (spv := spv) hgX hgvX hin' (by rw [hXl]; omega) (m := m') (by omega) hnm' hcv hz hZ hZ1 h1v (by rw [etk]; exact h1c) hbig hby (by simpa [hX] using hbl) (by simpa [hX] using hvl)
   have hnX : hX.next = h.next := by simp [hX]
   have hFn := key _ _ e3
   intro rd ox ax next Q hnext
   refine hFn.2 μ w _ st0.sim (fun x hx hx2 => z x (by rw [hnX] at hx; exact hx) (by rw [n3, hnX] at hx2; simpa using hx2)) hargs2 rd ox ax next Q ?_
   rintro v' w' ⟨μ', hv', st1⟩
   have st2 := Step.kill st1.sim b
   have hfin : h3.kill b = (h.kill b).new (.cells (insC sz c cv n i) e true 0) := by
    apply AHeap.ext'
    ·simp [n3, hX]
    ·intro x
     simp only [AHeap.get_new, AHeap.get_kill, AHeap.next_kill, g3, hnX, eins]
     by_cases hx : x = h.next
     ·have : x ≠ b := by omega
      simp [hx]
      omega
     ·by_cases hx2 : x = b
      ·simp [hx2]
       omega
      ·simp [hx, hx2, hX]
   rw [hfin] at st2
   rw [hnX] at hv'
   exact hnext v' w' ⟨_, hv', (st0.trans st1).trans st2⟩
end
end Gx
namespace Gx
open Go Go.RowKit
open Go.Sort (Holds putRow putCells mapBlock onCells grow)
open Go.Proofs (encStr)
section
variable {G : Nat} {P : Program}
def sortA (a : Option Addr) (n : Nat) (h : AHeap) : Option AHeap :=
 bif Nat.beq n 0 then some h else
 match a with
 | none => none
 | some a => (h.rdL a.block a.off n).bind fun l => (zQi_ l).bind fun xs => if n < 4611686018427387904 then h.wrL a.block a.off (srt xs) else none
def zLt_ (s : Slc) (h : AHeap) : Option AHeap := sortA s.a s.len h
def zDx_ (id : FuncId) : Ent := ⟨id, fun _ args h κ => match args with
 | [.slice a n _] => (sortA a n h).bind fun h' => κ (.tuple #[]) h'
 | _ => none⟩
structure SortC (P : Program) (f : FuncId) : Prop where
 cS : ∀ (blk off cap : Nat) (ss : List (List UInt8)) (w : World), Holds encStr w blk off ss.toArray → blk < w.heap.size → ss.length < 4611686018427387904 →
  Calls P f #[.slice (some ⟨blk, off, none⟩) ss.length cap] w fun e w' => e = .returned (.tuple #[]) ∧ ∃ n os, w' = grow (putRow encStr (Sort.ahead w n) blk off (ss.mergeSort fun x y => decide (x ≤ y)).toArray) os
 cN : ∀ (p : Option Addr) (cap : Nat) (w : World), Calls P f #[.slice p 0 cap] w fun e w' => e = .returned (.tuple #[]) ∧ w' = w
theorem zFr_ {c : Array Value} {d : List (List UInt8)} {o : Nat} (hle : o + d.length ≤ c.size) : (putCells encStr o d.toArray c).toList = zx_ c.toList o (d.map encStr) := by
 apply List.ext_getElem?
 intro k
 have e : (putCells encStr o d.toArray c).toList[k]? = c[k]?.map fun x => if o ≤ k ∧ k < o + d.length then encStr d.toArray[k - o]! else x := by
  rw [Array.getElem?_toList]
  simp [putCells, Array.getElem?_mapIdx]
 rw [e]
 unfold zx_
 have hk : ∀ y, (c[k]?.map fun x => if o ≤ k ∧ k < o + d.length then y else x) = if o ≤ k ∧ k < o + d.length ∧ k < c.size then some y else c[k]? := fun y => by
  by_cases hc : k < c.size
  ·rw [Array.getElem?_eq_getElem hc, Option.map_some]
   by_cases h : o ≤ k ∧ k < o + d.length
   ·rw [if_pos h, if_pos ⟨h.1, h.2, hc⟩]
   ·rw [if_neg h, if_neg (fun q => h ⟨q.1, q.2.1⟩)]
  ·rw [Array.getElem?_eq_none (by omega), if_neg (by omega)]; rfl
 rw [hk]
 by_cases h1 : k < o
 ·rw [if_neg (by omega), List.append_assoc, List.getElem?_append_left (by simp; omega), List.getElem?_take_of_lt h1]
  simp
 ·by_cases h2 : k < o + d.length
  ·have hlen : (List.take o c.toList).length = o := by simp; omega
   rw [if_pos ⟨by omega, h2, by omega⟩, List.append_assoc, List.getElem?_append_right (by omega), hlen, List.getElem?_append_left (by simp; omega)]
   have hd : k - o < d.length := by omega
   simp [hd]
  ·have hlen : (List.take o c.toList ++ d.map encStr).length = o + d.length := by simp; omega
   rw [if_neg (by omega), List.getElem?_append_right (by omega), hlen, List.getElem?_drop, List.length_map, Array.getElem?_toList]
   congr 1
   omega
theorem zcD_ {f : FuncId} {fn : Func} {c : Code} (hf : P.funcs[f]? = some fn) (hb : fn.body = some c) (hname : (fn.name == "runtime.NumGoroutine") = false) (hc : SortC P f) : zk_ P G (zDx_ f) := by
 intro R args h κ r hr
 simp only [zDx_] at hr
 split at hr
 case h_2 => cases hr
 rename_i a n cp
 simp only [Option.bind_eq_some_iff] at hr
 obtain ⟨h', hA, hr⟩ := hr
 unfold sortA at hA
 by_cases hn : n = 0
 ·subst hn
  have : h' = h := by simpa using hA.symm
  subst this
  refine ⟨_, h', hr, zgz_ hf hb hname fun μ w args' s hv => ⟨_, .tuple_list (.nil μ), ?_⟩⟩
  obtain ⟨v1, rfl, h1⟩ := hv.one_inv
  have : ∃ p m, v1 = .slice p 0 m := by cases h1 <;> exact ⟨_, _, rfl⟩
  obtain ⟨p, m, rfl⟩ := this
  refine (hc.cN p m w).mono ?_
  rintro e w' ⟨rfl, rfl⟩
  exact ⟨rfl, .refl _ _⟩
 ·have hnb : Nat.beq n 0 = false := by
   cases h : Nat.beq n 0 with
   | false => rfl
   | true => exact absurd (Nat.eq_of_beq_eq_true h) hn
  rw [hnb, cond_false] at hA
  split at hA
  ·cases hA
  rename_i a
  simp only [Option.bind_eq_some_iff] at hA
  obtain ⟨l, hl, xs, hxs, hA⟩ := hA
  split at hA
  case isFalse => cases hA
  rename_i hbig
  obtain ⟨cs, e, r0, fz, hget, hle, hlen⟩ := zBC_ hl hn
  have hke := zIs_ hxs
  have hxl : xs.length = n := by rw [← hlen, hke]; simp
  have hsl : (srt xs).length = n := by simp [srt, hxl]
  have hne : srt xs ≠ [] := fun e => by rw [e] at hsl; simp at hsl; omega
  unfold AHeap.wrL at hA
  split at hA
  ·exact absurd (by assumption) hne
  ·rename_i v t hvt
   rw [hget] at hA
   split at hA
   case h_2 => cases hA
   rename_i c0 e0 fz0 heq
   have hcc : c0 = cs := by simp only [Option.some.injEq, ABlk.cells.injEq] at heq; exact heq.1.symm
   have hge := hget.trans heq
   clear heq hget
   subst hcc
   split at hA
   case isFalse => cases hA
   rename_i hcond
   rw [← hvt] at hcond hA
   obtain ⟨q1, q2, q3⟩ := hcond
   cases hA
   refine ⟨_, _, hr, zLl_ hf hb hname (Nat.le_refl _) fun μ w args' s z hv => ?_⟩
   obtain ⟨v1, rfl, h1⟩ := hv.one_inv
   cases h1 with
   | empty _ => exact absurd rfl hn
   | slice hm hcap =>
    rename_i b o cb d zz m' sp
    obtain ⟨c', lo, hi, hO, hz, hcs, hrw⟩ := s.obj hge hm
    obtain ⟨rfl, hfz, hmk⟩ := hrw rfl
    simp only [Nat.zero_add] at hcs ⊢
    simp only at q1 q2 hle
    have hcl : ∀ j, j < n → ∃ x, xs[j]? = some x ∧ c'[o + j]? = some (.string x) := fun j hj => by
     have e1 : l[j]? = c0[o + j]? := by rw [hle, List.getElem?_take, if_pos hj, List.getElem?_drop]
     have hj2 : j < xs.length := by omega
     have e2 : l[j]? = some (.string xs[j]) := by rw [hke]; simp [hj2]
     obtain ⟨v', g1, g2⟩ := hcs (o + j) _ (e1.symm.trans e2)
     refine ⟨xs[j], by simp [hj2], ?_⟩
     rw [g1]; cases g2; rfl
    have hco : o + n ≤ c'.size := by
     obtain ⟨x, _, hx⟩ := hcl (n - 1) (by omega)
     have := (Array.getElem?_eq_some_iff.1 hx).1
     omega
    have hH : Holds encStr w cb o (xs.map (·.data.toList)).toArray := fun j hj => by
     have hj : j < xs.length := by simpa using hj
     obtain ⟨x, hx, hcx⟩ := hcl j (by omega)
     have hxe : xs[j] = x := by rw [List.getElem?_eq_getElem hj] at hx; simpa using hx
     refine ⟨?_, ?_⟩
     ·rw [zRf_ hO, hcx]
      simp [hj, hxe, encStr]
     ·rw [zhi_ hO]
      have := hfz (o + j) (by omega) (by omega)
      rw [Bool.and_eq_false_iff, decide_eq_false_iff_not, decide_eq_false_iff_not]
      omega
    have hcb := (Array.getElem?_eq_some_iff.1 hO).1
    have call := hc.cS cb o m' (xs.map (·.data.toList)) w hH hcb (by simpa [hxl] using hbig)
    rw [show (xs.map (·.data.toList)).length = n by simp [hxl]] at call
    refine call.mono ?_
    rintro ex w' ⟨rfl, nn, os, rfl⟩
    refine ⟨μ, _, rfl, .tuple_list (.nil μ), ?_⟩
    let sd := (xs.map (·.data.toList)).mergeSort fun x y => decide (x ≤ y)
    have hsd : sd.length = n := by simp [sd, hxl]
    have hsr : srt xs = sd.map encStr := rfl
    let w1 := putRow encStr (Sort.ahead w nn) cb o sd.toArray
    have ho1 : w1.heap[cb]? = some (.cells (putCells encStr o sd.toArray c') e0 (lo, hi)) := by
     show (w.heap.modify cb (onCells (putCells encStr o sd.toArray)))[cb]? = _
     rw [Array.getElem?_modify, if_pos rfl, hO]; rfl
    have e3 := zFr_ (c := c') (d := sd) (o := o) (hsd ▸ hco)
    have t1 : Step G μ h w μ (h.set b (.cells (zx_ c0 o (srt xs)) e0 true fz0)) w1 := by
     refine Step.turn s hge rfl hm ho1 ⟨rfl, ?_, fun i x hx => ?_, fun _ => ⟨rfl, fun i a b => hfz i a ?_, fun m => ⟨(hmk m).1, zzm_ (hmk m).2 (vs := srt xs) (vs' := srt xs) (VRs.strings _) (by rw [hsr]; exact e3)⟩⟩, fun q => by cases q⟩ rfl rfl rfl ?_ fun i hi => ?_
     ·simp [putCells, hz]
     ·simp only [Nat.zero_add]
      exact (VRs.strings (μ := μ) sd).spliceCells (by rw [hsr] at q1; exact q1) hcs (by simpa using e3) i x (by rw [hsr] at hx; exact hx)
     ·simpa [putCells] using b
     ·show (w.heap.modify cb _).size = _
      simp
     ·show (w.heap.modify cb _)[i]? = _
      rw [Array.getElem?_modify, if_neg (Ne.symm hi)]
    refine t1.trans (Step.belowX t1.sim ?_)
    refine ⟨rfl, rfl, rfl, ?_, fun i hi => ?_⟩
    ·show w1.heap.size ≤ (w1.heap ++ os).size
     simp
    ·show (w1.heap ++ os)[i]? = _
     exact Array.getElem?_append_left hi
end
end Gx
namespace Gx
open Go Go.RowKit
section
variable {G : Nat} {P : Program}
theorem FnS.calls {fn : Func} {g : FuncId} {args : List Value} {h h' : AHeap} {v : Value} (hF : FnS P G g args h v h') (hf : P.funcs[g]? = some fn) (hb : fn.body.isSome = true) (hname : (fn.name == "runtime.NumGoroutine") = false)
  {μ : BMap} {w : World} {args' : List Value} (s : Sim G μ h w) (z : Zed μ h.next h'.next) (hv : VRs μ args args') :
  Calls P g ⟨args'⟩ w fun e w' => ∃ v' μ', e = .returned v' ∧ VR μ' v v' ∧ Step G μ h w μ' h' w' := by
 have hcall : (callFunc g ⟨args'⟩).run P w = .ok (.enter g ⟨args'⟩) w := by
  have hne : ¬ fn.name = "runtime.NumGoroutine" := by simpa using hname
  obtain ⟨c, hc⟩ := Option.isSome_iff_exists.1 hb
  simp [callFunc, hf, hne, hc]
 have := hF.2 μ w args' s z hv none ⟨some 0, .move (.tmp 0), 0, "", #[], none⟩ { tmps := #[undef], defers := [] }
  (fun a' w' => ∃ v' μ', a'.tmps = #[v'] ∧ VR μ' v v' ∧ Step G μ h w μ' h' w') (fun _ _ _ => False) (fun v' w' ⟨μ', h1, h2⟩ => ⟨v', μ', by simp [Act.put], h1, h2⟩)
 rw [zXe_ hf, hcall, Oper.uponIn_enter] at this
 refine Calls.mono (callsIn_wide.1 this.2) fun e w' he => ?_
 cases e with
 | returned u =>
  obtain ⟨v', μ', e, h1, h2⟩ := he
  simp [Act.put] at e
  subst e
  exact ⟨_, μ', rfl, h1, h2⟩
 | panicked ch => exact he.elim
 | outgrown => obtain ⟨_, _, hh⟩ := he; exact hh.elim
theorem Step.below {μ μ' : BMap} {h h' : AHeap} {w w' : World} (st : Step G μ h w μ' h' w') (hro : ∀ b B, h.get b = some B → B.isRW = false) : Below w.heap.size w w' :=
 ⟨st.os, st.tape, st.output, st.size, fun k hk => st.old k hk fun b B p hb hrw => by rw [hro b B hb] at hrw; cases hrw⟩
def h0 : AHeap := ⟨0, fun _ => none⟩
theorem zRy_ {fn : Func} {g : FuncId} {e : Ent} (he : zk_ P G e) (hg : e.id = g) (hf : P.funcs[g]? = some fn) (hb : fn.body.isSome = true) (hname : (fn.name == "runtime.NumGoroutine") = false) {args : List Value} {h : AHeap}
  (hrun : e.run Bool args h (fun v _ => match v with | .bool b => some b | _ => none) = some true) {μ : BMap} {w : World} {args' : List Value} (s : Sim G μ h w) (z : ∀ b, h.next ≤ b → μ b = none) (hv : VRs μ args args') (hro : ∀ b B, h.get b = some B → B.isRW = false) :
  Calls P g ⟨args'⟩ w fun e w' => e = .returned (.bool true) ∧ Below w.heap.size w w' := by
 obtain ⟨v, h', hk, hF⟩ := he Bool args h _ true hrun
 subst hg
 refine Calls.mono (hF.calls hf hb hname s (fun b hb _ => z b hb) hv) ?_
 rintro e w' ⟨v', μ', rfl, h1, h2⟩
 refine ⟨?_, h2.below hro⟩
 split at hk
 ·cases hk; rw [zas_ h1]
 ·cases hk
end
end Gx
namespace Gx
open Go Go.RowKit Go.ChangeShapes Go.WideShapes
structure Start (w : World) (μ : BMap) (h : AHeap) (G : Nat := 0) : Prop where
 sim : Sim G μ h w
 z : ∀ b, h.next ≤ b → μ b = none
 ro : ∀ b B, h.get b = some B → B.isRW = false
structure More (w : World) (μ : BMap) (h : AHeap) (μ' : BMap) (h' : AHeap) (G : Nat := 0) : Prop where
 st : Start w μ' h' G
 le : BLe μ μ'
 kp : zc_ h h'
section
variable {H : Type} {enc : TypeId × Value → H} {P : Program} {w : World} {r : Reach} {base : Nat} {t e : TypeId} {v : Value} {d : DataW H} {ps : List MemPlace} {μ : BMap} {h : AHeap}
theorem zYm_ (hl : laidOutB P = true) {W' : World} (hb : Below w.heap.size w W') : ∀ {ts : List TypeId} {vs : List Value} {ds : List (DataW H)} {ps : List MemPlace}, (∀ t ∈ ts, P.readableRec t = true ∧ t < P.types.size) →
  DataW.TrodAll enc P w 0 (fun _ => true) true ts vs ds ps → DataW.TrodAll enc P W' 0 (fun b => decide (b < w.heap.size)) true ts vs ds ps
 | [], [], [], ps, _, h => h
 | t :: ts, v :: vs, d :: ds, ps, hr, h => by
  have hlt := DataW.TrodAll.lt h
  obtain ⟨p, q, h1, h2, rfl⟩ := h
  exact ⟨p, q, Below.trod hl (hr t (by simp)).1 (hr t (by simp)).2 h1 hb (fun x hx => hlt x (by simp [hx])), zYm_ hl hb (fun t ht => hr t (by simp [ht])) h2, rfl⟩
 | [], [], _ :: _, _, _, h => nomatch h
 | [], _ :: _, [], _, _, h => nomatch h
 | [], _ :: _, _ :: _, _, _, h => nomatch h
 | _ :: _, [], [], _, _, h => nomatch h
 | _ :: _, [], _ :: _, _, _, h => nomatch h
 | _ :: _, _ :: _, [], _, _, h => nomatch h
end
inductive DT where
 | int (k : IntKind) | bool | str | unit
 | pair (a b : DT)
 | list (t : DT)
section
variable {H : Type} {enc : TypeId × Value → H} {P : Program} {w : World} {G : Nat}
end
section
variable {H : Type} {enc : TypeId × Value → H} {P : Program} {w : World} {r : Reach} {base : Nat} {t e : TypeId} {v : Value} {d : DataW H} {ps : List MemPlace} {μ : BMap} {h : AHeap}
end
end Gx
namespace Gx
open Go Go.RowKit Go.ChangeShapes Go.WideShapes
section
variable {H : Type} {enc : TypeId × Value → H} {P : Program} {w : World} {r : Reach} {base : Nat} {t e : TypeId} {v : Value} {d : DataW H} {ps : List MemPlace} {μ : BMap}
end
section
variable {H : Type} {enc : TypeId × Value → H} {P : Program} {w : World} {r : Reach} {base : Nat} {t e : TypeId} {v : Value} {d : DataW H} {ps : List MemPlace}
end
end Gx
namespace Gx
open Go
section
variable {α β : Type} [DecidableEq α]
def encM (kv : α → Value) (vv : β → Value) (e : α × β × Nat) : Value × Value × Nat := (kv e.1, vv e.2.1, e.2.2)
def fdM (n : α) : List (α × β × Nat) → Nat → Option (Nat × β)
 | [], _ => none
 | e :: es, i => if e.1 = n then some (i, e.2.1) else fdM n es (i + 1)
def lkM (n : α) : List (α × β × Nat) → Option β
 | [] => none
 | e :: es => if e.1 = n then some e.2.1 else lkM n es
def ptM (n : α) (d : β) (cl : Nat) : List (α × β × Nat) → List (α × β × Nat)
 | [] => [(n, d, cl)]
 | e :: es => if e.1 = n then (n, d, e.2.2) :: es else e :: ptM n d cl es
theorem zlo_ {kv : α → Value} {vv : β → Value} {n : α} : ∀ (es : List (α × β × Nat)) (i : Nat), (∀ e ∈ es, zfe_ (kv n) (kv e.1) = some (decide (e.1 = n))) → zue_ (kv n) (es.map (encM kv vv)) i = some ((fdM n es i).map fun p => (p.1, vv p.2))
 | [], _, _ => rfl
 | e :: es, i, hk => by
  have ih := zlo_ (kv := kv) (vv := vv) (n := n) es (i + 1) fun x hx => hk x (List.mem_cons_of_mem _ hx)
  have h0 := hk e (List.mem_cons_self ..)
  simp only [List.map_cons, encM, zue_, fdM]
  rw [h0]
  by_cases h : e.1 = n
  ·rw [if_pos h, decide_eq_true h]; rfl
  ·rw [if_neg h, decide_eq_false h]
   exact ih
theorem zqz_ (n : α) : ∀ (es : List (α × β × Nat)) (i : Nat), (fdM n es i).map (·.2) = lkM n es
 | [], _ => rfl
 | e :: es, i => by
  simp only [fdM, lkM]
  by_cases h : e.1 = n
  ·rw [if_pos h, if_pos h]; rfl
  ·rw [if_neg h, if_neg h]; exact zqz_ n es (i + 1)
theorem ztz_ {n : α} : ∀ {es : List (α × β × Nat)} {i : Nat} {p}, fdM n es i = some p → i ≤ p.1
 | [], _, _, h => by cases h
 | e :: es, i, p, h => by
  simp only [fdM] at h
  split at h
  ·cases h; exact Nat.le_refl _
  ·have := ztz_ h; omega
theorem zRw_ {kv : α → Value} {vv : β → Value} {n : α} {d : β} {cl : Nat} : ∀ {es : List (α × β × Nat)} {i : Nat} {p}, fdM n es i = some p → (es.map (encM kv vv)).modify (p.1 - i) (fun e => (kv n, vv d, e.2.2)) = (ptM n d cl es).map (encM kv vv) ∧ (ptM n d cl es).length = es.length
 | [], _, _, h => by cases h
 | e :: es, i, p, h => by
  simp only [fdM] at h
  split at h
  ·rename_i q
   cases h
   simp only [Nat.sub_self, ptM, if_pos q]; exact ⟨rfl, rfl⟩
  ·rename_i q
   have h1 := ztz_ h
   obtain ⟨ih, il⟩ := zRw_ (kv := kv) (vv := vv) (d := d) (cl := cl) h
   simp only [ptM, if_neg q, List.map_cons, List.length_cons]
   rw [show p.1 - i = (p.1 - (i + 1)) + 1 by omega, List.modify_succ_cons, ih, il]
   exact ⟨rfl, rfl⟩
theorem zhv_ {kv : α → Value} {vv : β → Value} {n : α} {d : β} {cl : Nat} : ∀ {es : List (α × β × Nat)} {i : Nat}, fdM n es i = none → es.map (encM kv vv) ++ [(kv n, vv d, cl)] = (ptM n d cl es).map (encM kv vv) ∧ (ptM n d cl es).length = es.length + 1
 | [], _, _ => ⟨rfl, rfl⟩
 | e :: es, i, h => by
  simp only [fdM] at h
  split at h
  ·cases h
  ·rename_i q
   obtain ⟨ih, il⟩ := zhv_ (kv := kv) (vv := vv) (d := d) (cl := cl) h
   simp only [ptM, if_neg q, List.map_cons, List.cons_append, List.length_cons]
   rw [ih, il]
   exact ⟨rfl, rfl⟩
theorem zgs_ {n : α} : ∀ {es : List (α × β × Nat)} {v : β}, lkM n es = some v → ∃ e ∈ es, e.1 = n ∧ e.2.1 = v
 | [], v, h => by simp [lkM] at h
 | e :: es, v, h => by
  simp only [lkM] at h
  split at h
  ·rename_i c; exact ⟨e, by simp, c, by simpa using h⟩
  ·obtain ⟨x, hx, e2⟩ := zgs_ h; exact ⟨x, by simp [hx], e2⟩
theorem zls_ {n : α} {d : β} {cl : Nat} : ∀ {es : List (α × β × Nat)} {e}, e ∈ ptM n d cl es → (e.1 = n ∧ e.2.1 = d) ∨ e ∈ es
 | [], e, h => by simp [ptM] at h; exact .inl (by rw [h]; exact ⟨rfl, rfl⟩)
 | x :: es, e, h => by
  simp only [ptM] at h
  split at h
  ·rcases List.mem_cons.1 h with rfl | h
   ·exact .inl ⟨rfl, rfl⟩
   ·exact .inr (by simp [h])
  ·rcases List.mem_cons.1 h with rfl | h
   ·exact .inr (by simp)
   ·rcases zls_ h with g | g
    ·exact .inl g
    ·exact .inr (by simp [g])
theorem zZg_ {n m : α} {d : β} {cl : Nat} : ∀ {es : List (α × β × Nat)}, lkM m (ptM n d cl es) = if m = n then some d else lkM m es
 | [] => by
  simp only [ptM, lkM]
  by_cases h : m = n
  ·rw [if_pos h.symm, if_pos h]
  ·rw [if_neg (fun q => h q.symm), if_neg h]
 | e :: es => by
  simp only [ptM]
  by_cases c : e.1 = n
  ·rw [if_pos c]
   simp only [lkM]
   by_cases h : m = n
   ·rw [if_pos h.symm, if_pos h]
   ·rw [if_neg (fun q => h q.symm), if_neg h, if_neg (fun q => h (q.symm.trans c))]
  ·rw [if_neg c]
   simp only [lkM]
   by_cases h : e.1 = m
   ·rw [if_pos h, if_pos h, if_neg (fun q => c (h.trans q))]
   ·rw [if_neg h, if_neg h, zZg_]
def zsc_ (kv : α → Value) (vv : β → Value) (h : AHeap) (mb : Nat) (es : List (α × β × Nat)) : Prop := h.get mb = some (.map (es.map (encM kv vv)) es.length)
omit [DecidableEq α] in
theorem zsc_.chg {kv : α → Value} {vv : β → Value} {h h' : AHeap} {mb : Nat} {es : List (α × β × Nat)} {S : Nat → Prop} (M : zsc_ kv vv h mb es) (c : Chg S h h') (hl : mb < h.next) (hs : ¬ S mb) : zsc_ kv vv h' mb es := (c.oth mb hl hs).trans M
theorem zsc_.look {kv : α → Value} {vv : β → Value} {h : AHeap} {mb : Nat} {es : List (α × β × Nat)} (M : zsc_ kv vv h mb es) {n : α} (hk : ∀ e ∈ es, zfe_ (kv n) (kv e.1) = some (decide (e.1 = n))) {γ : Type} {dec : Value → Option γ} {dv : β → γ} (hd : ∀ v, dec (vv v) = some (dv v)) {z : Value} {z0 : γ} (hz : dec z = some z0) :
  zuc_ dec z h (some mb) (kv n) = some (match lkM n es with | some v => (dv v, true) | none => (z0, false)) := by
 have e := zlo_ (kv := kv) (vv := vv) es 0 hk
 have l := zqz_ n es 0
 have M : h.get mb = some (.map (es.map (encM kv vv)) es.length) := M
 simp only [zuc_, M, e]
 rw [← l]
 cases fdM n es 0 with
 | none => simp [hz]
 | some p => simp [hd]
theorem zsc_.upd {kv : α → Value} {vv : β → Value} {h : AHeap} {mb : Nat} {es : List (α × β × Nat)} (M : zsc_ kv vv h mb es) {n : α} (hk : ∀ e ∈ es, zfe_ (kv n) (kv e.1) = some (decide (e.1 = n))) (d : β) :
  ∃ h', updE h mb (kv n) (vv d) = some h' ∧ zsc_ kv vv h' mb (ptM n d es.length es) ∧ Chg (· = mb) h h' ∧ h'.next = h.next := by
 have e := zlo_ (kv := kv) (vv := vv) es 0 hk
 have M : h.get mb = some (.map (es.map (encM kv vv)) es.length) := M
 simp only [updE, M, e]
 cases hf : fdM n es 0 with
 | none =>
  obtain ⟨a, b⟩ := zhv_ (kv := kv) (vv := vv) (d := d) (cl := es.length) hf
  refine ⟨_, rfl, ?_, Chg.set (.inr rfl), rfl⟩
  rw [zsc_, a, b]; simp
 | some p =>
  obtain ⟨a, b⟩ := zRw_ (kv := kv) (vv := vv) (d := d) (cl := es.length) hf
  rw [Nat.sub_zero] at a
  refine ⟨_, rfl, ?_, Chg.set (.inr rfl), rfl⟩
  simp only []
  rw [zsc_, a, b]; simp
end
def keyV (l : List UInt8) : Value := .agg ⟨l.map encB⟩
theorem zXq_ : ∀ {a b : List UInt8}, a.length = b.length → zSb_ (a.map encB) (b.map encB) = some (decide (b = a))
 | [], [], _ => rfl
 | x :: a, y :: b, h => by
  simp only [List.map_cons, encB, zSb_]
  rw [zXq_ (by simpa using h)]
  simp only [decide_true, cond_true, Option.some.injEq]
  have e : ((x.toNat : Int) == (y.toNat : Int)) = decide (y = x) := by
   by_cases c : y = x
   ·rw [c]; simp
   ·rw [decide_eq_false c]
    have : ¬ x.toNat = y.toNat := fun q => c (UInt8.toNat_inj.1 q).symm
    exact beq_eq_false_iff_ne.2 (by omega)
  rw [e]
  by_cases c1 : y = x
  ·by_cases c2 : b = a
   ·simp [c1, c2]
   ·simp [c1, c2]
  ·simp [c1]
 | [], _ :: _, h => by simp at h
 | _ :: _, [], h => by simp at h
theorem zdx_ {a b : List UInt8} (h : a.length = b.length) : zfe_ (keyV a) (keyV b) = some (decide (b = a)) := zXq_ h
theorem zeh_ (a b : ByteArray) : zfe_ (.string a) (.string b) = some (decide (b = a)) := by
 simp only [zfe_]
 rw [zOe_]
 congr 1
 by_cases c : a = b
 ·simp [c]
 ·rw [decide_eq_false c, decide_eq_false (fun q => c q.symm)]
def be32 (a b c d : UInt8) : UInt32 := UInt32.ofNat (a.toNat * 16777216 + b.toNat * 65536 + c.toNat * 256 + d.toNat)
theorem zsB_ (a b c d : UInt8) : (be32 a b c d).toNat = a.toNat * 16777216 + b.toNat * 65536 + c.toNat * 256 + d.toNat := by
 unfold be32
 rw [UInt32.toNat_ofNat']
 have := a.toNat_lt; have := b.toNat_lt; have := c.toNat_lt; have := d.toNat_lt
 omega
theorem zvy_ {a b : Nat} (ha : a < 2 ^ 32) (hb : b < 2 ^ 32) : Go.bits .or .u32 (a : Int) (b : Int) = ((a ||| b : Nat) : Int) := (bits_nat .u32 32 (by decide) zwr_ a b ha hb).2
theorem zFq_ (a : Nat) {b n : Nat} (h : b < 2 ^ n) : a * 2 ^ n ||| b = a * 2 ^ n + b := by
 have := Nat.shiftLeft_add_eq_or_of_lt h a
 rw [Nat.shiftLeft_eq] at this
 exact this.symm
theorem zWA_ (a b c d : UInt8) :
  Go.bits .or .u32 (Go.bits .or .u32 (Go.bits .or .u32 (IntKind.wrap .u32 ((IntKind.wrap .u32 (a.toNat : Int)) * 16777216)) (IntKind.wrap .u32 ((IntKind.wrap .u32 (b.toNat : Int)) * 65536))) (IntKind.wrap .u32 ((IntKind.wrap .u32 (c.toNat : Int)) * 256))) (IntKind.wrap .u32 (d.toNat : Int)) = ((be32 a b c d).toNat : Int) := by
 have ha := a.toNat_lt; have hb := b.toNat_lt; have hc := c.toNat_lt; have hd := d.toNat_lt
 have wa : IntKind.wrap .u32 ((IntKind.wrap .u32 (a.toNat : Int)) * 16777216) = ((a.toNat * 16777216 : Nat) : Int) := by
  rw [Go.IntKind.wrap_u32, Go.IntKind.wrap_u32]; omega
 have wb : IntKind.wrap .u32 ((IntKind.wrap .u32 (b.toNat : Int)) * 65536) = ((b.toNat * 65536 : Nat) : Int) := by
  rw [Go.IntKind.wrap_u32, Go.IntKind.wrap_u32]; omega
 have wc : IntKind.wrap .u32 ((IntKind.wrap .u32 (c.toNat : Int)) * 256) = ((c.toNat * 256 : Nat) : Int) := by
  rw [Go.IntKind.wrap_u32, Go.IntKind.wrap_u32]; omega
 have wd : IntKind.wrap .u32 (d.toNat : Int) = ((d.toNat : Nat) : Int) := by
  rw [Go.IntKind.wrap_u32]; omega
 have o1 : a.toNat * 16777216 ||| b.toNat * 65536 = a.toNat * 16777216 + b.toNat * 65536 := zFq_ a.toNat (n := 24) (by omega)
 have o2 : a.toNat * 16777216 + b.toNat * 65536 ||| c.toNat * 256 = a.toNat * 16777216 + b.toNat * 65536 + c.toNat * 256 := by
  have := zFq_ (a.toNat * 256 + b.toNat) (n := 16) (b := c.toNat * 256) (by omega)
  rw [show (a.toNat * 256 + b.toNat) * 2 ^ 16 = a.toNat * 16777216 + b.toNat * 65536 by omega] at this
  exact this
 have o3 : a.toNat * 16777216 + b.toNat * 65536 + c.toNat * 256 ||| d.toNat = a.toNat * 16777216 + b.toNat * 65536 + c.toNat * 256 + d.toNat := by
  have := zFq_ (a.toNat * 65536 + b.toNat * 256 + c.toNat) (n := 8) (b := d.toNat) (by omega)
  rw [show (a.toNat * 65536 + b.toNat * 256 + c.toNat) * 2 ^ 8 = a.toNat * 16777216 + b.toNat * 65536 + c.toNat * 256 by omega] at this
  exact this
 rw [wa, wb, wc, wd, zvy_ (by omega) (by omega), o1, zvy_ (by omega) (by omega), o2, zvy_ (by omega) (by omega), o3, zsB_]
def wAt (l : List UInt8) (i : Nat) : UInt32 := be32 (l[4 * i]?.getD 0) (l[4 * i + 1]?.getD 0) (l[4 * i + 2]?.getD 0) (l[4 * i + 3]?.getD 0)
def sg0 (x : UInt32) : UInt32 := rotr x 7 ^^^ rotr x 18 ^^^ (x >>> 3)
def sg1 (x : UInt32) : UInt32 := rotr x 17 ^^^ rotr x 19 ^^^ (x >>> 10)
def zab_ (m : Nat → UInt32) (i : Nat) : UInt32 :=
 if i < 16 then m i else zab_ m (i - 16) + sg0 (zab_ m (i - 15)) + zab_ m (i - 7) + sg1 (zab_ m (i - 2))
termination_by i
decreasing_by all_goals omega
theorem zXA_ {m : Nat → UInt32} {i : Nat} (h : i < 16) : zab_ m i = m i := by rw [zab_, if_pos h]
theorem zVA_ {m : Nat → UInt32} {i : Nat} (h : 16 ≤ i) : zab_ m i = zab_ m (i - 16) + sg0 (zab_ m (i - 15)) + zab_ m (i - 7) + sg1 (zab_ m (i - 2)) := by rw [zab_, if_neg (by omega)]
structure St where
 a : UInt32
 b : UInt32
 c : UInt32
 d : UInt32
 e : UInt32
 f : UInt32
 g : UInt32
 h : UInt32
def Sg0 (x : UInt32) : UInt32 := rotr x 2 ^^^ rotr x 13 ^^^ rotr x 22
def Sg1 (x : UInt32) : UInt32 := rotr x 6 ^^^ rotr x 11 ^^^ rotr x 25
def chO (e f g : UInt32) : UInt32 := (e &&& f) ^^^ (~~~e &&& g)
def maj (a b c : UInt32) : UInt32 := (a &&& b) ^^^ (a &&& c) ^^^ (b &&& c)
def tmpT (k w : UInt32) (s : St) : UInt32 := s.h + Sg1 s.e + chO s.e s.f s.g + k + w
def tmpU (s : St) : UInt32 := Sg0 s.a + maj s.a s.b s.c
def rnd (k w : UInt32) (s : St) : St := ⟨tmpT k w s + tmpU s, s.a, s.b, s.c, s.d + tmpT k w s, s.e, s.f, s.g⟩
def zqr_ (K W : Nat → UInt32) : Nat → St → St
 | 0, s => s
 | n + 1, s => rnd (K n) (W n) (zqr_ K W n s)
def shaK : List UInt32 := [
  0x428a2f98, 0x71374491, 0xb5c0fbcf, 0xe9b5dba5, 0x3956c25b, 0x59f111f1, 0x923f82a4, 0xab1c5ed5,
  0xd807aa98, 0x12835b01, 0x243185be, 0x550c7dc3, 0x72be5d74, 0x80deb1fe, 0x9bdc06a7, 0xc19bf174,
  0xe49b69c1, 0xefbe4786, 0x0fc19dc6, 0x240ca1cc, 0x2de92c6f, 0x4a7484aa, 0x5cb0a9dc, 0x76f988da,
  0x983e5152, 0xa831c66d, 0xb00327c8, 0xbf597fc7, 0xc6e00bf3, 0xd5a79147, 0x06ca6351, 0x14292967,
  0x27b70a85, 0x2e1b2138, 0x4d2c6dfc, 0x53380d13, 0x650a7354, 0x766a0abb, 0x81c2c92e, 0x92722c85,
  0xa2bfe8a1, 0xa81a664b, 0xc24b8b70, 0xc76c51a3, 0xd192e819, 0xd6990624, 0xf40e3585, 0x106aa070,
  0x19a4c116, 0x1e376c08, 0x2748774c, 0x34b0bcb5, 0x391c0cb3, 0x4ed8aa4a, 0x5b9cca4f, 0x682e6ff3,
  0x748f82ee, 0x78a5636f, 0x84c87814, 0x8cc70208, 0x90befffa, 0xa4506ceb, 0xbef9a3f7, 0xc67178f2]
def kAt (i : Nat) : UInt32 := shaK[i]?.getD 0
def zpx_ (s t : St) : St := ⟨s.a + t.a, s.b + t.b, s.c + t.c, s.d + t.d, s.e + t.e, s.f + t.f, s.g + t.g, s.h + t.h⟩
def comp (s : St) (l : List UInt8) : St := zpx_ s (zqr_ kAt (zab_ (wAt l)) 64 s)
def st0 : St := ⟨0x6a09e667, 0xbb67ae85, 0x3c6ef372, 0xa54ff53a, 0x510e527f, 0x9b05688c, 0x1f83d9ab, 0x5be0cd19⟩
def wl (s : St) : List UInt32 := [s.a, s.b, s.c, s.d, s.e, s.f, s.g, s.h]
theorem zZ_ (s : St) : (wl s).length = 8 := rfl
def zY_ (l : List UInt32) (r : Slc) (long : Int) : List Value := l.map encU ++ [.slice r.a r.len r.cap, .int .i64 long]
theorem zcf_ {l : List UInt32} {r : Slc} {long : Int} (h : l.length = 8) : (zY_ l r long).length = 10 := by simp [zY_, h]
theorem zGp_ {l : List UInt32} {r : Slc} {long : Int} {i : Nat} {x : UInt32} (h : l[i]? = some x) : (zY_ l r long)[i]? = some (.int .u32 (x.toNat : Int)) := by
 have hi := (List.getElem?_eq_some_iff.1 h).1
 unfold zY_
 rw [List.getElem?_append_left (by simpa using hi), List.getElem?_map, h]; rfl
theorem zzx_ {l : List UInt32} {r : Slc} {long : Int} {i : Nat} (x : UInt32) (hi : i < l.length) : (zY_ l r long).set i (.int .u32 (x.toNat : Int)) = zY_ (l.set i x) r long := by
 unfold zY_
 rw [List.set_append_left _ _ (by simpa using hi), List.map_set]; rfl
structure KG (b : Nat) (h : AHeap) : Prop where
 lt : b < h.next
 ok : ∃ c e r fz, h.get b = some (.cells c e r fz) ∧ ∀ i, i < 64 → c[i]? = some (.int .u32 ((kAt i).toNat : Int))
theorem KG.chg {S : Nat → Prop} {b : Nat} {h h' : AHeap} (k : KG b h) (c : Chg S h h') (hs : ¬ S b) : KG b h' := by
 obtain ⟨l, e, r, fz, h1, h2⟩ := k.ok
 exact ⟨Nat.lt_of_lt_of_le k.lt c.nx, l, e, r, fz, (c.oth b k.lt hs).trans h1, h2⟩
theorem KG.ld {b : Nat} {h : AHeap} (k : KG b h) {i : Nat} (hi : i < 64) : ldI .u32 ⟨b, i, none⟩ h = some ((kAt i).toNat : Int) := by
 obtain ⟨l, e, r, fz, h1, h2⟩ := k.ok
 exact zp_ h1 (h2 i hi)
def zYb_ (s : St) (l : List UInt8) : St := if 64 ≤ l.length then zYb_ (comp s (l.take 64)) (l.drop 64) else s
termination_by l.length
decreasing_by rw [List.length_drop]; omega
theorem zEn_ {s : St} {l : List UInt8} (h : 64 ≤ l.length) : zYb_ s l = zYb_ (comp s (l.take 64)) (l.drop 64) := by rw [zYb_, if_pos h]
theorem zEo_ {s : St} {l : List UInt8} (h : l.length < 64) : zYb_ s l = s := by rw [zYb_, if_neg (by omega)]
def zEc_ (l : List UInt8) : List UInt8 := l.drop (64 * (l.length / 64))
theorem zLg_ (l : List UInt8) : (zEc_ l).length = l.length % 64 := by unfold zEc_; rw [List.length_drop]; omega
theorem zCs_ {l : List UInt8} (h : l.length < 64) : zEc_ l = l := by
 unfold zEc_
 rw [Nat.div_eq_of_lt h]; rfl
theorem znA_ {l : List UInt8} (h : 64 ≤ l.length) : zEc_ l = zEc_ (l.drop 64) := by
 unfold zEc_
 rw [List.drop_drop, List.length_drop]
 congr 1; omega
theorem ztm_ (t : List UInt8) : ∀ (n : Nat) (s : St) (l : List UInt8), l.length ≤ n → zYb_ (zYb_ s l) (zEc_ l ++ t) = zYb_ s (l ++ t)
 | n, s, l, hn => by
  by_cases h : 64 ≤ l.length
  ·match n with
   | 0 => omega
   | n + 1 =>
    rw [zEn_ h, znA_ h, ztm_ t n (comp s (l.take 64)) (l.drop 64) (by rw [List.length_drop]; omega), zEn_ (l := l ++ t) (by rw [List.length_append]; omega), List.take_append_of_le_length h, List.drop_append_of_le_length h]
  ·rw [zEo_ (s := s) (l := l) (by omega), zCs_ (by omega)]
theorem zCy_ (l t : List UInt8) : zEc_ (zEc_ l ++ t) = zEc_ (l ++ t) := by
 unfold zEc_
 have e : (l.drop (64 * (l.length / 64)) ++ t) = (l ++ t).drop (64 * (l.length / 64)) := (List.drop_append_of_le_length (by omega)).symm
 rw [e, List.drop_drop, List.length_drop, List.length_append]
 congr 1; omega
def b8 (n : Nat) : UInt8 := UInt8.ofNat n
def zCc_ (x : UInt32) : List UInt8 := [b8 (x.toNat / 16777216), b8 (x.toNat / 65536), b8 (x.toNat / 256), b8 x.toNat]
def zkj_ (s : St) : List UInt8 := zCc_ s.a ++ zCc_ s.b ++ zCc_ s.c ++ zCc_ s.d ++ zCc_ s.e ++ zCc_ s.f ++ zCc_ s.g ++ zCc_ s.h
def be64 (n : Nat) : List UInt8 := [b8 (n / 2 ^ 56), b8 (n / 2 ^ 48), b8 (n / 2 ^ 40), b8 (n / 2 ^ 32), b8 (n / 2 ^ 24), b8 (n / 2 ^ 16), b8 (n / 2 ^ 8), b8 n]
def zMb_ (n : Nat) : Nat := (119 - n % 64) % 64
def padT (n : Nat) : List UInt8 := 128 :: List.replicate (zMb_ n) 0 ++ be64 (n * 8)
def zKi_ (l : List UInt8) : List UInt8 := zkj_ (zYb_ st0 (l ++ padT l.length))
end Gx
namespace Gx
open Go Go.RowKit Go.ChangeShapes Go.WideShapes
section
variable {H : Type} {enc : TypeId × Value → H} {P : Program} {w : World} {G : Nat}
end
section
variable {H : Type} {enc : TypeId × Value → H} {P : Program} {w : World} {G : Nat}
end
section
variable {H : Type} {enc : TypeId × Value → H} {P : Program} {w : World} {G : Nat}
end
theorem zcy_ {P : Program} {W : World} {name : String} {d : DataW Unit} {g : Nat} {t e : TypeId} {l : List UInt32} (hg : P.globalNamed name = some g) (ht : (P.globals[g]?).map (·.type) = some t) (hu : P.underlying t = some (.array l.length e)) (he : P.underlying e = some (.int .u32)) (hc : P.cellsOf e = 1)
  (hd : d = .agg (l.map fun x => .lit (.int .u32 (x.toNat : Int)))) (hp : ([(name, d)].all fun x => x.2.handleName?.isNone) = true) (h : laidMetH P [(name, d)] W) :
  ∃ arr ty fz, W.heap[g]? = some (.cells arr ty fz) ∧ ∀ (i : Nat) (x : UInt32), l[i]? = some x → arr[i]? = some (.int .u32 (x.toNat : Int)) := by
 rw [MakeChecks.laidMetH_plain _ _ _ hp] at h
 obtain ⟨ps, ⟨g0, t0, cs0, f0, p0, q0, hg0, ht0, hv0, hd0, _, _⟩, _, _⟩ := h
 obtain rfl := Option.some.inj (hg.symm.trans hg0)
 obtain rfl := Option.some.inj (ht.symm.trans ht0)
 have hcell : ∀ i, W.cell? ⟨g, i, none⟩ = cs0[i]? := fun i => World.var?_cell hg0 hv0 i
 obtain ⟨xs, m, rfl, hx1, hlen, hxl, hel⟩ := DataW.trod_array hu hd0
 have cs : ∀ (i : Nat) (x : UInt32), l[i]? = some x → cs0[i]? = some (.int .u32 (x.toNat : Int)) := fun i x hx => by
  have hi : i < l.length := (List.getElem?_eq_some_iff.1 hx).1
  have e1 := hel i hi
  rw [hc, Nat.mul_one] at e1
  obtain ⟨y, hy⟩ : ∃ y, xs[i]? = some y := ⟨xs[i]'(by omega), by simp [hxl, hi]⟩
  rw [hy] at e1
  obtain ⟨k, q1, q2, _⟩ := DataW.trod_int he e1
  have q3 : y.1 = .lit (.int .u32 (x.toNat : Int)) := by
   simp only [Prod.mk.injEq] at hx1
   have e2 := hx1.1
   rw [hd] at e2
   have e3 : l.map (fun x => (.lit (.int .u32 (x.toNat : Int)) : DataW Unit)) = xs.map (·.1) := DataW.agg.inj e2
   have e4 := congrArg (fun z => z[i]?) e3
   simp only [List.getElem?_map, hx, hy, Option.map_some, Option.some.injEq] at e4
   exact e4.symm
  rw [q2] at q3
  have hk : k = (x.toNat : Int) := by simpa using q3
  subst hk
  have e5 : (cs0.toList.drop i)[0]? = some (.int .u32 (x.toNat : Int)) := by
   have := congrArg (fun z => z[0]?) q1
   simpa [List.getElem?_take] using this
  rw [List.getElem?_drop, Nat.add_zero] at e5
  simpa using e5
 have c0 : ∃ x, l[0]? = some x ∨ l = [] := by
  cases l with
  | nil => exact ⟨0, .inr rfl⟩
  | cons x l => exact ⟨x, .inl rfl⟩
 simp only [World.var?, hg0, Option.bind_some] at hv0
 split at hv0
 ·rename_i c ty fz hO
  refine ⟨c, ty, fz, hO, fun i x hx => ?_⟩
  have := hcell i
  unfold World.cell? at this
  rw [hO] at this
  simp only at this
  rw [cs i x hx] at this
  simpa using this
 ·cases hv0
def hG (G g : Nat) (ty : TypeId) (l : List UInt32) : AHeap := ⟨G, fun b => if b = g then some (.cells (l.map encU) ty false 0) else none⟩
end Gx
namespace Gx
open Go Go.RowKit
section
variable {G : Nat} {P : Program}
end
section
variable {G : Nat} {P : Program}
end
end Gx
namespace Gx
open Go Go.RowKit Go.ChangeShapes Go.WideShapes
theorem zXz_ {P : Program} {w : World} {n : String} {g : Nat} {cs : Array Value} (hg : P.globalNamed n = some g) (h : w.var? P n = some cs) : ∃ ty fz, w.heap[g]? = some (.cells cs ty fz) := by
 simp only [World.var?, hg, Option.bind_some] at h
 split at h
 ·rename_i c ty fz hO
  cases h
  exact ⟨ty, fz, hO⟩
 ·cases h
end Gx
