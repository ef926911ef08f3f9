import Derived.Laws.BitsLemmas
import Derived.Below
import Derived.Lib.Repeat
import Derived.Lib.Join
import Derived.Sort.KeysCollected
import Derived.Lib.Overlaps
import Derived.Lib.Builder
import Derived.SizedLaws
import Derived.SliceStrings
import Derived.ChangeSlices
import Derived.ChangeOld
import Derived.Carry
import Derived.OpenShut
import Derived.ShutString
import Derived.DataReads
import Derived.ChangeBears2
import Derived.MakeChecks
import Derived.Test.YtgnljbdobbahkaaDoorGx2
namespace Gx
open Go
section
variable {G : Nat} {P : Program} {R : Type} {r : R} {C : CallF}
structure OnceC where
 id : FuncId
 ro0 : List RO
 ro1 : List RO
 g1 : FuncId
 a1 : List Operand
 ro2 : List RO
 t : Nat
 ro3 : List RO
 g2 : FuncId
 a2 : List Operand
 ro4 : List RO
structure OnceFits (P : Program) (G : Nat) (fn : Func) (o : OnceC) : Prop where
 ex : ∃ (i0 i1 i2 i3 i4 : Nat) (p0 p1 p2 p3 p4 : Array Oper) (pre1 pre3 : List Oper) (d1 d3 : Oper) (b1 b3 : Array Operand) (t1 t3 : Array TypeId),
  fn.body = some (.seq (.region i0 p0 false) (.seq (.region i1 p1 false) (.seq (.region i2 p2 false) (.cond (.tmp o.t) (.seq (.region i3 p3 false) (.region i4 p4 false)) .skip)))) ∧
  rosOf P G fn.ntmps p0 p0.toList = some (o.ro0.map stripO) ∧ rosOf P G fn.ntmps p2 p2.toList = some (o.ro2.map stripO) ∧ rosOf P G fn.ntmps p4 p4.toList = some (o.ro4.map stripO) ∧
  p1.toList = pre1 ++ [d1] ∧ d1.op = .defer ⟨.value (.func o.g1), b1, t1⟩ ∧ d1.guard = none ∧ d1.dst = none ∧ rosOf P G fn.ntmps p1 pre1 = some (o.ro1.map stripO) ∧ opsG G b1.toList = true ∧ b1.toList = o.a1 ∧
  p3.toList = pre3 ++ [d3] ∧ d3.op = .defer ⟨.value (.func o.g2), b3, t3⟩ ∧ d3.guard = none ∧ d3.dst = none ∧ rosOf P G fn.ntmps p3 pre3 = some (o.ro3.map stripO) ∧ opsG G b3.toList = true ∧ b3.toList = o.a2
end
end Gx
namespace Gx
open Go
theorem bx (k : IntKind) (j : Nat) (hj : j ≤ k.bits) (hk : ∀ n : Int, 0 ≤ n → n < 2 ^ j → k.wrap n = n) (a b : Nat) (ha : a < 2 ^ j) (hb : b < 2 ^ j) :
  Go.bits .xor k a b = ((a ^^^ b : Nat) : Int) := by
 have hp : 2 ^ j ≤ 2 ^ k.bits := Nat.pow_le_pow_right (by decide) hj
 have ha' : a % 2 ^ k.bits = a := Nat.mod_eq_of_lt (Nat.lt_of_lt_of_le ha hp)
 have hb' : b % 2 ^ k.bits = b := Nat.mod_eq_of_lt (Nat.lt_of_lt_of_le hb hp)
 have cast : ∀ n : Nat, n < 2 ^ j → ((n : Nat) : Int) < 2 ^ j := fun n h => by exact_mod_cast h
 simp only [bits, BitVec.ofInt_natCast, BitVec.toNat_xor, BitVec.toNat_ofNat, ha', hb']
 exact hk _ (Int.natCast_nonneg _) (cast _ (Nat.xor_lt_two_pow ha hb))
theorem wraps_i64 (n : Int) (h₀ : 0 ≤ n) (h₁ : n < 2 ^ 63) : IntKind.i64.wrap n = n := by rw [Go.IntKind.wrap_i64]; omega
theorem shr64 (b i : Nat) (hi : i ≤ 64) : Int.fdiv (b : Int) (2 ^ (min (i : Int).toNat (IntKind.bits .i64))) = ((b / 2 ^ i : Nat) : Int) := by
 have : min (i : Int).toNat (IntKind.bits .i64) = i := by
  show min i 64 = i
  omega
 rw [this, Int.fdiv_eq_ediv_of_nonneg _ (Int.pow_nonneg (by decide))]
 simp
end Gx
namespace Gx
open Go
theorem bnd {α β : Type} {x : Option α} {f : α → Option β} {v : α} {r : Option β} (h : x = some v) (k : f v = r) : x.bind f = r := by rw [h]; exact k
theorem jn {α R : Type} {j : α} {b : α → R} {r : R} (k : b j = r) : joinK j b = r := k
theorem ifp {α : Type} {c : Prop} [Decidable c] {a b r : α} (h : c) (k : a = r) : (if c then a else b) = r := by rw [if_pos h]; exact k
theorem ifn {α : Type} {c : Prop} [Decidable c] {a b r : α} (h : ¬ c) (k : b = r) : (if c then a else b) = r := by rw [if_neg h]; exact k
theorem gp {R : Type} {p : Prop} {x r : Option R} (h : p) (k : x = r) : guardP p x = r := by rw [guardP_true h]; exact k
theorem iterK_add {α : Type} (bot : α) (b : α → α) (n : Nat) : ∀ m, iterK bot (m + n) b = iterK (iterK bot n b) m b
 | 0 => by rw [Nat.zero_add]; rfl
 | m + 1 => by rw [Nat.succ_add]; simp only [iterK]; rw [iterK_add bot b n m]
theorem iterK_of {α : Type} (bot : α) (b : α → α) {k m : Nat} (h : m ≤ k) : ∃ bot', iterK bot k b = iterK bot' m b := by
 obtain ⟨n, rfl⟩ : ∃ n, k = m + n := ⟨k - m, by omega⟩
 exact ⟨_, iterK_add bot b n m⟩
theorem iterK_s {α : Type} (bot : α) (b : α → α) (m : Nat) : iterK bot (m + 1) b = b (iterK bot m b) := rfl
theorem w64 (x : Int) (h : -9223372036854775808 ≤ x ∧ x < 9223372036854775808) : IntKind.wrap .i64 x = x := by
 rw [Go.IntKind.wrap_i64]; omega
theorem w8 (x : Int) (h : 0 ≤ x ∧ x < 256) : IntKind.wrap .u8 x = x := by
 rw [Go.IntKind.wrap_u8]; omega
structure Chg (S : Nat → Prop) (h h' : AHeap) : Prop where
 nx : h.next ≤ h'.next
 oth : ∀ x, x < h.next → ¬ S x → h'.get x = h.get x
theorem Chg.refl (S : Nat → Prop) (h : AHeap) : Chg S h h := ⟨Nat.le_refl _, fun _ _ _ => rfl⟩
theorem Chg.trans {S : Nat → Prop} {h h1 h2 : AHeap} (a : Chg S h h1) (c : Chg S h1 h2) : Chg S h h2 :=
 ⟨Nat.le_trans a.nx c.nx, fun x hx hs => (c.oth x (Nat.lt_of_lt_of_le hx a.nx) hs).trans (a.oth x hx hs)⟩
theorem Chg.new {S : Nat → Prop} (h : AHeap) (B : ABlk) : Chg S h (h.new B) := ⟨by simp, fun x hx _ => by simp; omega⟩
theorem Chg.set {S : Nat → Prop} {h : AHeap} {b : Nat} {B : ABlk} (hb : h.next ≤ b ∨ S b) : Chg S h (h.set b B) :=
 ⟨by simp, fun x hx hs => by
  simp only [AHeap.get_set]
  rw [if_neg]
  rintro rfl
  rcases hb with hb | hb
  ·omega
  ·exact hs hb⟩
theorem Chg.wk {S T : Nat → Prop} {h h' : AHeap} (a : Chg S h h') (st : ∀ x, x < h.next → S x → T x) : Chg T h h' := ⟨a.nx, fun x hx ht => a.oth x hx fun hs => ht (st x hx hs)⟩
theorem Chg.beh {S T : Nat → Prop} {h h1 h2 : AHeap} (a : Chg S h h1) (c : Chg T h1 h2) (st : ∀ x, x < h.next → T x → S x) : Chg S h h2 :=
 ⟨Nat.le_trans a.nx c.nx, fun x hx hs => (c.oth x (Nat.lt_of_lt_of_le hx a.nx) fun ht => hs (st x hx ht)).trans (a.oth x hx hs)⟩
def NoB (_ : Nat) : Prop := False
abbrev Keeps (h h' : AHeap) : Prop := Chg NoB h h'
theorem Keeps.new (h : AHeap) (B : ABlk) : Keeps h (h.new B) := Chg.new h B
theorem Chg.keeps {S : Nat → Prop} {h h' : AHeap} (a : Keeps h h') : Chg S h h' := a.wk fun _ _ f => False.elim f
theorem set_set (h : AHeap) (b : Nat) (B C : ABlk) : (h.set b B).set b C = h.set b C := by
 simp only [AHeap.set, AHeap.mk.injEq, true_and]
 funext x
 by_cases e : x = b <;> simp [e]
theorem set_self {h : AHeap} {b : Nat} {B : ABlk} (hb : h.get b = some B) : h.set b B = h := by
 obtain ⟨n, g⟩ := h
 simp only [AHeap.set, AHeap.mk.injEq, true_and] at hb ⊢
 funext x
 by_cases e : x = b
 ·simp [e, hb]
 ·simp [e]
theorem st1_of {h : AHeap} {b o : Nat} {sp : Option Nat} {c : List Value} {e : TypeId} {v : Value} (hb : h.get b = some (.cells c e true 0)) (ho : o < c.length) (hv : one v = true) : st1 ⟨b, o, sp⟩ v h = some (h.set b (.cells (c.set o v) e true 0)) := by
 simp [st1, AHeap.wr1, hb, ho, hv]
def Row {α : Type} (enc : α → Value) (h : AHeap) (s : Slc) (xs : List α) : Prop :=
 s.len = xs.length ∧ ∀ i x, xs[i]? = some x → ∃ a c e r fz, s.a = some a ∧ a.block < h.next ∧ h.get a.block = some (.cells c e r fz) ∧ c[a.off + i]? = some (enc x)
def encI (x : Int) : Value := .int .i64 x
def encS (s : ByteArray) : Value := .string s
def encB (b : UInt8) : Value := .int .u8 (b.toNat : Int)
section
variable {α : Type} {enc : α → Value} {h h' : AHeap} {s : Slc} {xs : List α}
theorem Row.nil (enc : α → Value) (h : AHeap) (a : Option Addr) (cap : Nat) : Row enc h ⟨a, 0, cap⟩ [] := ⟨rfl, fun i x hx => by simp at hx⟩
theorem Row.rd (R : Row enc h s xs) {i : Nat} {x : α} (hx : xs[i]? = some x) : ∃ q, idxL 1 s (i : Int) = some q ∧ h.rd1 q.block q.off = some (enc x) ∧ q.block < h.next ∧ ∃ a, s.a = some a ∧ a.block = q.block := by
 obtain ⟨a, c, e, r, fz, h1, h2, h3, h4⟩ := R.2 i x hx
 have hi : i < xs.length := (List.getElem?_eq_some_iff.1 hx).1
 refine ⟨⟨a.block, a.off + i * 1, none⟩, ?_, ?_, h2, a, h1, rfl⟩
 ·simp only [idxL, h1]
  rw [if_pos (by rw [R.1]; omega)]
  simp
 ·simp only [AHeap.rd1, h3, Nat.mul_one]
  exact h4
theorem Row.chg {S : Nat → Prop} (R : Row enc h s xs) (c : Chg S h h') (hs : ∀ a, s.a = some a → ¬ S a.block) : Row enc h' s xs :=
 ⟨R.1, fun i x hx => by
  obtain ⟨a, cc, e, r, fz, h1, h2, h3, h4⟩ := R.2 i x hx
  exact ⟨a, cc, e, r, fz, h1, Nat.lt_of_lt_of_le h2 c.nx, by rw [c.oth _ h2 (hs a h1)]; exact h3, h4⟩⟩
theorem Row.keeps (R : Row enc h s xs) (c : Keeps h h') : Row enc h' s xs := R.chg c fun _ _ f => f
theorem Row.of_block {b o : Nat} {sp : Option Nat} {cap : Nat} {c : List Value} {e : TypeId} {r : Bool} {fz : Nat} (hb : h.get b = some (.cells c e r fz)) (hn : b < h.next)
  (hc : ∀ i x, xs[i]? = some x → c[o + i]? = some (enc x)) : Row enc h ⟨some ⟨b, o, sp⟩, xs.length, cap⟩ xs :=
 ⟨rfl, fun i x hx => ⟨_, c, e, r, fz, rfl, hn, hb, hc i x hx⟩⟩
end
theorem Row.ldI {h : AHeap} {s : Slc} {xs : List Int} (R : Row encI h s xs) {i : Nat} {x : Int} (hx : xs[i]? = some x) : ∃ q, idxL 1 s (i : Int) = some q ∧ Gx.ldI .i64 q h = some x := by
 obtain ⟨q, h1, h2, _⟩ := R.rd hx
 exact ⟨q, h1, by simp [Gx.ldI, h2, encI, decI]⟩
theorem Row.ldS {h : AHeap} {s : Slc} {xs : List ByteArray} (R : Row encS h s xs) {i : Nat} {x : ByteArray} (hx : xs[i]? = some x) : ∃ q, idxL 1 s (i : Int) = some q ∧ Gx.ldS q h = some x := by
 obtain ⟨q, h1, h2, _⟩ := R.rd hx
 exact ⟨q, h1, by simp [Gx.ldS, h2, encS, decS]⟩
theorem Row.ldB {h : AHeap} {s : Slc} {xs : List UInt8} (R : Row encB h s xs) {i : Nat} {x : UInt8} (hx : xs[i]? = some x) : ∃ q, idxL 1 s (i : Int) = some q ∧ Gx.ldI .u8 q h = some (x.toNat : Int) := by
 obtain ⟨q, h1, h2, _⟩ := R.rd hx
 exact ⟨q, h1, by simp [Gx.ldI, h2, encB, decI]⟩
def bl (s : ByteArray) : List UInt8 := s.data.toList
theorem bl_length (s : ByteArray) : (bl s).length = s.size := by simp [bl]
theorem bl_inj {s t : ByteArray} (h : bl s = bl t) : s = t := by
 cases s; cases t; simp [bl] at h; rw [h]
theorem bl_mk (l : List UInt8) : bl ⟨⟨l⟩⟩ = l := rfl
theorem size_mk (l : List UInt8) : (⟨⟨l⟩⟩ : ByteArray).size = l.length := by rw [← bl_length]; rfl
theorem idxS_of {s : ByteArray} {i : Nat} {x : UInt8} (hx : (bl s)[i]? = some x) : idxS s (i : Int) = some (x.toNat : Int) := by
 have hi : i < s.size := by rw [← bl_length]; exact (List.getElem?_eq_some_iff.1 hx).1
 simp only [idxS]
 rw [if_pos (by omega)]
 have : s[(i : Int).toNat]? = some x := by
  rw [Int.toNat_natCast]
  rw [getElem?_pos s i hi]
  have h2 := (List.getElem?_eq_some_iff.1 hx).2
  rw [← h2]; rfl
 rw [this]; rfl
theorem bytesL_bl (s : ByteArray) : bytesL s = (bl s).map encB := rfl
theorem unbytes_map (l : List UInt8) : unbytes (l.map encB) = some l := by
 induction l with
 | nil => rfl
 | cons x l ih =>
  rw [List.map_cons]
  show (match unbytes (l.map encB) with | some t => some (UInt8.ofNat (x.toNat : Int).toNat :: t) | none => none) = _
  rw [ih]
  simp
theorem rdL_all {h : AHeap} {b : Nat} {c : List Value} {e : TypeId} {r : Bool} {fz : Nat} (hb : h.get b = some (.cells c e r fz)) : h.rdL b 0 c.length = some c := by
 unfold AHeap.rdL
 cases hc : c.length with
 | zero => simp at hc; subst hc; rfl
 | succ n => simp only [hb]; rw [if_pos (by omega), List.drop_zero, ← hc, List.take_length]
theorem bytesOf_out {h : AHeap} {b : Nat} {l : List UInt8} {e : TypeId} {r : Bool} {fz cap : Nat} {sp : Option Nat} (hb : h.get b = some (.cells (l.map encB) e r fz)) :
  bytesOf h ⟨some ⟨b, 0, sp⟩, l.length, cap⟩ = some ⟨⟨l⟩⟩ := by
 have := rdL_all hb
 rw [List.length_map] at this
 simp only [bytesOf, this, Option.bind_some, unbytes_map]
theorem idxL_out {b i n cap : Nat} {sp : Option Nat} (hi : i < n) : idxL 1 ⟨some ⟨b, 0, sp⟩, n, cap⟩ (i : Int) = some ⟨b, i, none⟩ := by
 simp only [idxL]
 rw [if_pos (by omega)]
 simp
theorem stB_out {h : AHeap} {b i : Nat} {sp : Option Nat} {l : List UInt8} {e : TypeId} {x : Nat} (hb : h.get b = some (.cells (l.map encB) e true 0)) (hi : i < l.length) (hx : x < 256) :
  st1 ⟨b, i, sp⟩ (.int .u8 (x : Int)) h = some (h.set b (.cells ((l.set i (UInt8.ofNat x)).map encB) e true 0)) := by
 rw [st1_of hb (by simpa using hi) rfl]
 congr 4
 rw [List.map_set]
 congr 1
 simp only [encB]
 congr 1
 rw [UInt8.toNat_ofNat_of_lt' (by simpa using hx)]
theorem rdB_out {h : AHeap} {b i : Nat} {sp : Option Nat} {l : List UInt8} {e : TypeId} {r : Bool} {fz : Nat} {x : UInt8} (hb : h.get b = some (.cells (l.map encB) e r fz)) (hx : l[i]? = some x) :
  ldI .u8 ⟨b, i, sp⟩ h = some (x.toNat : Int) := by
 simp [ldI, AHeap.rd1, hb, hx, encB, decI]
theorem zeros_bytes (n : Nat) : zerosL n [.int .u8 0] = (List.replicate n (0 : UInt8)).map encB := by
 simp [zerosL, encB]
def outB {α : Type} (enc : α → Value) (e : TypeId) (l : List α) : ABlk := .cells (l.map enc) e true 0
theorem fill_step {α : Type} {init : List α} {f : Nat → α} {i : Nat} (hi : i < init.length) :
  ((List.range i).map f ++ init.drop i).set i (f i) = (List.range (i + 1)).map f ++ init.drop (i + 1) := by
 rw [List.set_append_right _ _ (by simp), List.length_map, List.length_range, Nat.sub_self, List.drop_eq_getElem_cons hi, List.set_cons_zero, List.range_succ, List.map_append, List.append_assoc]
 rfl
theorem fill {α R : Type} (enc : α → Value) (e : TypeId) (B : Nat) (f : Nat → α) (init : List α) (h0 : AHeap) (L : Nat → Nat → AHeap → Option R) (J : AHeap → Option R)
  (step : ∀ m i l, i + (m + 1) = init.length → l.length = init.length → (∀ k, i ≤ k → l[k]? = init[k]?) → L (m + 1) i (h0.set B (outB enc e l)) = L m (i + 1) (h0.set B (outB enc e (l.set i (f i)))))
  (base : ∀ h, L 0 init.length h = J h) :
  ∀ m i, i + m = init.length → L m i (h0.set B (outB enc e ((List.range i).map f ++ init.drop i))) = J (h0.set B (outB enc e ((List.range init.length).map f)))
 | 0, i, hi => by
  obtain rfl : i = init.length := by omega
  rw [base, List.drop_length, List.append_nil]
 | m + 1, i, hi => by
  rw [step m i _ hi (by simp; omega) (fun k hk => by
   rw [List.getElem?_append_right (by simpa using hk)]
   simp only [List.length_map, List.length_range, List.getElem?_drop]
   congr 1; omega), fill_step (by omega)]
  exact fill enc e B f init h0 L J step base m (i + 1) (by omega)
theorem ba_beq (x y : ByteArray) : (x == y) = decide (x = y) := by
 cases x with | mk a => cases y with | mk b =>
 show (a == b) = _
 rw [Bool.eq_iff_iff]
 simp
theorem isome {α : Type} {l : List α} {i : Nat} (h : i < l.length) : ∃ x, l[i]? = some x := ⟨l[i], by simp [h]⟩
theorem getElem_of {α : Type} {l : List α} {i : Nat} {x : α} (h : l[i]? = some x) : ∃ hi : i < l.length, l[i] = x := List.getElem?_eq_some_iff.1 h
theorem mem_of {α : Type} {l : List α} {i : Nat} {x : α} (h : l[i]? = some x) : x ∈ l := List.mem_of_getElem? h
theorem dropc {α : Type} {l : List α} {i : Nat} {x : α} (h : l[i]? = some x) : l.drop i = x :: l.drop (i + 1) := by
 obtain ⟨hi, rfl⟩ := getElem_of h
 exact List.drop_eq_getElem_cons hi
theorem w1 {i : Nat} (h : i < 9223372036854775807) : IntKind.wrap .i64 ((i : Int) + 1) = ((i + 1 : Nat) : Int) := by rw [w64 _ (by omega)]; omega
theorem Row.rdS {α : Type} {enc : α → Value} {h : AHeap} {s : Slc} {xs : List α} (R : Row enc h s xs) : Gx.rdS 1 s h = some (xs.map enc) := by
 unfold Gx.rdS
 cases hx : xs with
 | nil =>
  have h0 : s.len = 0 := by rw [R.1, hx]; rfl
  cases s.a with
  | none => rfl
  | some a => simp [h0, AHeap.rdL]
 | cons x t =>
  obtain ⟨a, c, e, r, fz, h1, h2, h3, h4⟩ := R.2 0 x (by rw [hx]; rfl)
  rw [h1]
  simp only [R.1, hx, List.length_cons, Nat.mul_one, AHeap.rdL, h3]
  have all : ∀ i y, xs[i]? = some y → c[a.off + i]? = some (enc y) := fun i y hy => by
   obtain ⟨a', c', e', r', fz', h1', h2', h3', h4'⟩ := R.2 i y hy
   rw [h1] at h1'; cases h1'
   rw [h3] at h3'; cases h3'
   exact h4'
  have hlen : a.off + xs.length ≤ c.length := by
   obtain ⟨y, hy⟩ := isome (l := xs) (i := xs.length - 1) (by rw [hx]; simp)
   have := (List.getElem?_eq_some_iff.1 (all _ _ hy)).1
   rw [hx] at this ⊢
   simp at this ⊢
   omega
  rw [if_pos (by rw [hx] at hlen; exact hlen)]
  congr 1
  rw [← hx]
  apply List.ext_getElem?
  intro i
  rw [List.getElem?_take, List.getElem?_drop, List.getElem?_map]
  have hl : t.length + 1 = xs.length := by rw [hx]; rfl
  rw [hl]
  by_cases hi : i < xs.length
  ·obtain ⟨y, hy⟩ := isome hi
   rw [if_pos hi, all i y hy, hy]
   rfl
  ·rw [if_neg hi]; simp [hi]
theorem allOne_map {α : Type} {enc : α → Value} (ho : ∀ x, one (enc x) = true) : ∀ xs : List α, allOne (xs.map enc) = true
 | [] => rfl
 | x :: t => by simp [allOne, ho, allOne_map ho t]
theorem Row.take {α : Type} {enc : α → Value} {h : AHeap} {a : Option Addr} {n cap cap' : Nat} {xs ys : List α} (R : Row enc h ⟨a, n, cap⟩ (xs ++ ys)) : Row enc h ⟨a, xs.length, cap'⟩ xs :=
 ⟨rfl, fun i x hx => R.2 i x (by rw [List.getElem?_append_left (List.getElem?_eq_some_iff.1 hx).1]; exact hx)⟩
structure Grown {α : Type} (enc : α → Value) (e : TypeId) (h : AHeap) (b : Nat) (s : Slc) (xs : List α) : Prop where
 s : s = ⟨some ⟨b, 0, some 2⟩, xs.length, xs.length⟩
 blk : h.get b = some (outB enc e xs)
 ne : xs ≠ []
theorem Grown.append {α : Type} {enc : α → Value} {e : TypeId} {h : AHeap} {b bytes : Nat} {s : Slc} {xs ys : List α} (g : Grown enc e h b s xs) (ho : ∀ x, one (enc x) = true) (hy : ys ≠ []) (hs : 2 * (xs.length + ys.length) * bytes ≤ 281474976710656) (h1 : 1 ≤ bytes) :
  appendA 1 bytes e h s (ys.map enc) ys.length = some (⟨some ⟨h.next, 0, some 2⟩, (xs ++ ys).length, (xs ++ ys).length⟩, (h.kill b).new (outB enc e (xs ++ ys))) := by
 obtain ⟨rfl, hb, hx⟩ := g
 have l1 : xs.length ≠ 0 := fun e => hx (List.length_eq_zero_iff.1 e)
 have l2 : ys.length ≠ 0 := fun e => hy (List.length_eq_zero_iff.1 e)
 unfold appendA
 rw [if_neg (by simp; omega), if_pos ⟨by simpa using hs, h1⟩]
 simp only [outB] at hb
 simp only [hb]
 rw [if_pos (by simp [allOne_map ho ys, l1])]
 simp [outB, List.take_of_length_le]
theorem Grown.of {α : Type} {enc : α → Value} {e : TypeId} {h : AHeap} {xs : List α} (hx : xs ≠ []) : Grown enc e (h.new (outB enc e xs)) h.next ⟨some ⟨h.next, 0, some 2⟩, xs.length, xs.length⟩ xs := ⟨rfl, by simp, hx⟩
theorem Grown.row {α : Type} {enc : α → Value} {e : TypeId} {h : AHeap} {b : Nat} {s : Slc} {xs : List α} (g : Grown enc e h b s xs) (hb : b < h.next) : Row enc h s xs := by
 obtain ⟨rfl, hg, hx⟩ := g
 exact Row.of_block hg hb fun i x hi => by rw [Nat.zero_add, List.getElem?_map, hi]; rfl
theorem Grown.chg {α : Type} {S : Nat → Prop} {enc : α → Value} {e : TypeId} {h h' : AHeap} {b : Nat} {s : Slc} {xs : List α} (g : Grown enc e h b s xs) (hb : b < h.next) (c : Chg S h h') (hs : ¬ S b) : Grown enc e h' b s xs :=
 ⟨g.s, by rw [c.oth b hb hs]; exact g.blk, g.ne⟩
theorem Chg.kill_new {S : Nat → Prop} {h : AHeap} {b : Nat} {B : ABlk} (hb : h.next ≤ b ∨ S b) : Chg S h ((h.kill b).new B) :=
 ⟨by simp, fun x hx hs => by
  show (if x = h.next then some B else if x = b then none else h.get x) = h.get x
  rw [if_neg (by omega), if_neg]
  rintro rfl
  rcases hb with hb | hb
  ·omega
  ·exact hs hb⟩
structure Acc {α : Type} (enc : α → Value) (e : TypeId) (base : Nat) (h : AHeap) (s : Slc) (xs : List α) : Prop where
 st : (s = ⟨none, 0, 0⟩ ∧ xs = []) ∨ ∃ b, Grown enc e h b s xs
 lt : ∀ a, s.a = some a → a.block < h.next ∧ base ≤ a.block
theorem Acc.nil {α : Type} (enc : α → Value) (e : TypeId) (base : Nat) (h : AHeap) : Acc enc e base h ⟨none, 0, 0⟩ [] := ⟨.inl ⟨rfl, rfl⟩, fun a ha => by cases ha⟩
def ofS (s : Slc) (y : Nat) : Prop := ∃ a, s.a = some a ∧ y = a.block
theorem Acc.chg {α : Type} {S : Nat → Prop} {enc : α → Value} {e : TypeId} {base : Nat} {h h' : AHeap} {s : Slc} {xs : List α} (A : Acc enc e base h s xs) (c : Chg S h h') (hs : ∀ a, s.a = some a → ¬ S a.block) : Acc enc e base h' s xs := by
 refine ⟨A.st.imp id ?_, fun a ha => ⟨Nat.lt_of_lt_of_le (A.lt a ha).1 c.nx, (A.lt a ha).2⟩⟩
 rintro ⟨b, g⟩
 have hb := A.lt ⟨b, 0, some 2⟩ (by rw [g.s])
 exact ⟨b, g.chg hb.1 c (hs ⟨b, 0, some 2⟩ (by rw [g.s]))⟩
theorem Acc.keeps {α : Type} {enc : α → Value} {e : TypeId} {base : Nat} {h h' : AHeap} {s : Slc} {xs : List α} (A : Acc enc e base h s xs) (c : Keeps h h') : Acc enc e base h' s xs := A.chg c fun _ _ f => f
theorem Acc.row {α : Type} {enc : α → Value} {e : TypeId} {base : Nat} {h : AHeap} {s : Slc} {xs : List α} (A : Acc enc e base h s xs) : Row enc h s xs := by
 rcases A.st with ⟨rfl, rfl⟩ | ⟨b, g⟩
 ·exact Row.nil _ _ _ _
 ·exact g.row (A.lt ⟨b, 0, some 2⟩ (by rw [g.s])).1
theorem rdS_one {h : AHeap} {v : Value} {e : TypeId} : Gx.rdS 1 (⟨some ⟨h.next, 0, some 0⟩, 1, 1⟩ : Slc) (h.new (.cells [v] e true 0)) = some [v] := by
 have := rdL_all (h := h.new (.cells [v] e true 0)) (b := h.next) (c := [v]) (e := e) (r := true) (fz := 0) (by simp)
 simpa [Gx.rdS] using this
theorem Acc.push {α : Type} {enc : α → Value} {e : TypeId} {base bytes : Nat} {h : AHeap} {s : Slc} {xs : List α} (A : Acc enc e base h s xs) (ho : ∀ x, one (enc x) = true) (x : α) (hs : 2 * (xs.length + 1) * bytes ≤ 281474976710656) (h1 : 1 ≤ bytes) (hbase : base ≤ h.next) :
  ∃ s' h', appendA 1 bytes e (h.new (.cells [enc x] e true 0)) s [enc x] 1 = some (s', h') ∧ Acc enc e base h' s' (xs ++ [x]) ∧ Chg (ofS s) h h' ∧ ∀ a, s'.a = some a → h.next ≤ a.block := by
 obtain ⟨g1, hg1⟩ : ∃ g1, g1 = h.new (.cells [enc x] e true 0) := ⟨_, rfl⟩
 have k1 : Keeps h g1 := hg1 ▸ Keeps.new h _
 have n1 : g1.next = h.next + 1 := by rw [hg1]; rfl
 rw [← hg1]
 have A1 := A.keeps k1
 rcases A1.st with ⟨rfl, rfl⟩ | ⟨b, g⟩
 ·refine ⟨⟨some ⟨g1.next, 0, some 2⟩, 1, 1⟩, g1.new (outB enc e [x]), ?_, ⟨.inr ⟨g1.next, rfl, by simp, by simp⟩, ?_⟩, (k1.trans (Keeps.new g1 _)).wk fun _ _ f => f.elim, ?_⟩
  ·simp only [appendA]
   rw [if_neg (by omega), if_pos (by simp at hs ⊢; omega)]
   rfl
  ·intro a ha; cases ha; simp; omega
  ·intro a ha; cases ha; simp; omega
 ·have hb := A1.lt ⟨b, 0, some 2⟩ (by rw [g.s])
  have hb0 := A.lt ⟨b, 0, some 2⟩ (by rw [g.s])
  have ap := g.append (bytes := bytes) (ys := [x]) ho (by simp) (by simpa using hs) h1
  refine ⟨_, _, ap, ⟨.inr ⟨g1.next, rfl, by simp, by simp⟩, ?_⟩, ?_, ?_⟩
  ·intro a ha; cases ha; simp; omega
  ·refine Chg.beh (T := (· = b)) (Chg.keeps k1) (Chg.kill_new (.inr rfl)) fun y hy e => ⟨⟨b, 0, some 2⟩, by rw [g.s], e⟩
  ·intro a ha; cases ha; simp; omega
def ApartS (s t : Slc) : Prop := ∀ a b, s.a = some a → t.a = some b → a.block ≠ b.block
theorem ApartS.symm {s t : Slc} (h : ApartS s t) : ApartS t s := fun a b ha hb e => h b a hb ha e.symm
theorem ApartS.fresh {s t : Slc} {n : Nat} (hs : ∀ a, s.a = some a → a.block < n) (ht : ∀ a, t.a = some a → n ≤ a.block) : ApartS s t := fun a b ha hb e => by
 have := hs a ha; have := ht b hb; omega
theorem bl_extract (s : ByteArray) (i j : Nat) : bl (s.extract i j) = ((bl s).take j).drop i := by
 simp [bl, ByteArray.data_extract, List.drop_take]
theorem subS_of {s : ByteArray} {lo hi : Option Int} {i j : Nat} (hh : hi.getD s.size = (j : Int)) (hl : lo.getD 0 = (i : Int)) (h1 : i ≤ j) (h2 : j ≤ s.size) : Gx.subS s lo hi = some ⟨⟨((bl s).take j).drop i⟩⟩ := by
 simp only [Gx.subS, hh, hl]
 rw [if_pos (by omega)]
 congr 1
 apply bl_inj
 rw [Int.toNat_natCast, Int.toNat_natCast]
 exact bl_extract s i j
end Gx
namespace Gx
open Go
def Wp {R : Type} (x : Option R) (Q : R → Prop) : Prop := ∃ r, x = some r ∧ Q r
theorem Wp.bnd {R α : Type} {Q : R → Prop} {x : Option α} {a : α} {f : α → Option R} (h : x = some a) (k : Wp (f a) Q) : Wp (x.bind f) Q := by rw [h]; exact k
theorem Wp.jn {R α : Type} {Q : R → Prop} {J : α} {b : α → Option R} (k : ∀ j, j = J → Wp (b j) Q) : Wp (joinK J b) Q := k J rfl
theorem Wp.ifp {R : Type} {Q : R → Prop} {c : Prop} [Decidable c] {a b : Option R} (h : c) (k : Wp a Q) : Wp (if c then a else b) Q := by rw [if_pos h]; exact k
theorem Wp.ifn {R : Type} {Q : R → Prop} {c : Prop} [Decidable c] {a b : Option R} (h : ¬ c) (k : Wp b Q) : Wp (if c then a else b) Q := by rw [if_neg h]; exact k
theorem Wp.gp {R : Type} {Q : R → Prop} {p : Prop} {x : Option R} (h : p) (k : Wp x Q) : Wp (guardP p x) Q := by rw [guardP_true h]; exact k
theorem Wp.of {R : Type} {Q : R → Prop} {r : R} (h : Q r) : Wp (some r) Q := ⟨r, rfl, h⟩
theorem Wp.mono {R : Type} {Q P : R → Prop} {x : Option R} (h : Wp x Q) (k : ∀ r, Q r → P r) : Wp x P := let ⟨r, e, q⟩ := h; ⟨r, e, k r q⟩
theorem Wp.call {R α : Type} {Q : R → Prop} {P : α → Prop} {x : Option α} {f : α → Option R} (h : Wp x P) (k : ∀ a, P a → Wp (f a) Q) : Wp (x.bind f) Q := let ⟨a, e, p⟩ := h; .bnd e (k a p)
theorem sidxA {n b i : Nat} (hi : i < n) : idxA n 1 ⟨b, 0, none⟩ (i : Int) = some ⟨b, i, none⟩ := by
 unfold idxA
 rw [if_pos (by omega), Int.toNat_natCast, Nat.mul_one, Nat.zero_add]
theorem sidxA0 {n b i o : Nat} (hi : i < n) : idxA n 1 ⟨b, o, none⟩ (i : Int) = some ⟨b, o + i, none⟩ := by
 unfold idxA
 rw [if_pos (by omega), Int.toNat_natCast, Nat.mul_one]
theorem sw64 {x : Int} {n : Nat} (h : x = (n : Int)) (hn : n < 9223372036854775808) : IntKind.wrap .i64 x = (n : Int) := by rw [h]; exact w64 _ (by omega)
theorem Keeps.set {h0 h : AHeap} {b : Nat} {B : ABlk} (k : Keeps h0 h) (hb : h0.next ≤ b) : Keeps h0 (h.set b B) :=
 Chg.beh k (Chg.set (S := fun x => x = b) (.inr rfl)) fun x hx e => by have e : x = b := e; omega
theorem ssw1 {H1 : AHeap} {F : AHeap → Option Value} {v : Value} (h : F H1 = some v) : SameW [H1] F v := by
 intro H hH; simp at hH; subst hH; exact h
theorem sldI_at {h : AHeap} {b o : Nat} {sp : Option Nat} {c : List Value} {e : TypeId} {r : Bool} {fz : Nat} {k : IntKind} {x : Int} (hb : h.get b = some (.cells c e r fz)) (hc : c[o]? = some (.int k x)) : ldI k ⟨b, o, sp⟩ h = some x := by
 simp [ldI, AHeap.rd1, hb, hc, decI]
theorem sldA_at {h : AHeap} {b n : Nat} {sp : Option Nat} {c : List Value} {e : TypeId} {r : Bool} {fz : Nat} (hb : h.get b = some (.cells c e r fz)) (hc : c.length = n) : ldA n ⟨b, 0, sp⟩ h = some c := by
 subst hc; exact rdL_all hb
theorem sldL_at {h : AHeap} {b o : Nat} {sp : Option Nat} {c : List Value} {e : TypeId} {r : Bool} {fz : Nat} {a : Option Addr} {n m : Nat} (hb : h.get b = some (.cells c e r fz)) (hc : c[o]? = some (.slice a n m)) : ldL ⟨b, o, sp⟩ h = some ⟨a, n, m⟩ := by
 simp [ldL, AHeap.rd1, hb, hc, decL]
theorem sldA_take {h : AHeap} {b n : Nat} {sp : Option Nat} {c : List Value} {e : TypeId} {r : Bool} {fz : Nat} (hb : h.get b = some (.cells c e r fz)) (hn : 0 < n) (hc : n ≤ c.length) : ldA n ⟨b, 0, sp⟩ h = some (c.take n) := by
 obtain ⟨m, rfl⟩ : ∃ m, n = m + 1 := ⟨n - 1, by omega⟩
 simp only [ldA, AHeap.rdL, hb]
 rw [if_pos (by omega), List.drop_zero]
theorem sstL_at {h : AHeap} {b n : Nat} {sp : Option Nat} {c cs : List Value} {e : TypeId} (hb : h.get b = some (.cells c e true 0)) (hc : c.length = n) (hl : cs.length = n) (ho : allOne cs = true) (hn : n ≠ 0) :
  stL n ⟨b, 0, sp⟩ cs h = some (h.set b (.cells cs e true 0)) := by
 unfold stL
 rw [hl, Nat.beq_refl, cond_true]
 cases cs with
 | nil => simp at hl; omega
 | cons v t =>
  simp only [AHeap.wrL, hb]
  rw [if_pos ⟨by omega, Nat.le_refl _, ho⟩]
  simp only [splice, List.take_zero, List.nil_append, Nat.zero_add, hl]
  rw [← hc, List.drop_length, List.append_nil]
theorem sset_get (h : AHeap) (b : Nat) (B : ABlk) : (h.set b B).get b = some B := by simp
theorem Acc.app {α : Type} {enc : α → Value} {e : TypeId} {base bytes : Nat} {h : AHeap} {s : Slc} {xs : List α} (A : Acc enc e base h s xs) (ho : ∀ x, one (enc x) = true) (ys : List α) (hs : 2 * (xs.length + ys.length) * bytes ≤ 281474976710656) (h1 : 1 ≤ bytes) (hbase : base ≤ h.next) :
  ∃ s' h', appendA 1 bytes e h s (ys.map enc) ys.length = some (s', h') ∧ Acc enc e base h' s' (xs ++ ys) ∧ Chg (ofS s) h h' ∧ ∀ a, s'.a = some a → h.next ≤ a.block ∨ s.a = some a := by
 by_cases hy : ys = []
 ·subst hy
  rw [List.append_nil]
  rcases A.st with ⟨rfl, rfl⟩ | ⟨b, g⟩
  ·exact ⟨⟨none, 0, 0⟩, h, by simp [appendA], A, Chg.refl _ _, fun a ha => by cases ha⟩
  ·refine ⟨s, h, ?_, A, Chg.refl _ _, fun a ha => .inr ha⟩
   rw [g.s]; simp [appendA]
 ·have hl : ys.length ≠ 0 := fun q => hy (List.length_eq_zero_iff.1 q)
  rcases A.st with ⟨rfl, rfl⟩ | ⟨b, g⟩
  ·refine ⟨⟨some ⟨h.next, 0, some 2⟩, ys.length, ys.length⟩, h.new (outB enc e ys), ?_, ⟨.inr ⟨h.next, by simpa using Grown.of hy⟩, ?_⟩, Chg.new _ _, ?_⟩
   ·simp only [appendA, Nat.zero_add]
    rw [if_neg (by omega), if_pos (by simp at hs; omega)]
    rfl
   ·intro a ha; cases ha; simp; omega
   ·intro a ha; cases ha; simp
  ·have hb := A.lt ⟨b, 0, some 2⟩ (by rw [g.s])
   have ap := g.append (bytes := bytes) (ys := ys) ho hy hs h1
   refine ⟨_, _, ap, ⟨.inr ⟨h.next, rfl, by simp, by simp [hy]⟩, ?_⟩, Chg.kill_new (.inr ⟨⟨b, 0, some 2⟩, by rw [g.s], rfl⟩), ?_⟩
   ·intro a ha; cases ha; simp; omega
   ·intro a ha; cases ha; simp
structure Lst {α : Type} (enc : α → Value) (e : TypeId) (n0 : Nat) (h : AHeap) (s : Slc) (xs : List α) : Prop where
 ne : xs ≠ []
 st : ∃ b sp, s = ⟨some ⟨b, 0, sp⟩, xs.length, xs.length⟩ ∧ h.get b = some (outB enc e xs) ∧ n0 ≤ b ∧ b < h.next ∧ (sp = some 0 ∨ sp = some 2)
theorem Lst.chg {α : Type} {S : Nat → Prop} {enc : α → Value} {e : TypeId} {n0 : Nat} {h h' : AHeap} {s : Slc} {xs : List α} (L : Lst enc e n0 h s xs) (c : Chg S h h') (hs : ∀ a, s.a = some a → ¬ S a.block) : Lst enc e n0 h' s xs := by
 obtain ⟨b, sp, h1, h2, h3, h4, h5⟩ := L.st
 exact ⟨L.ne, b, sp, h1, (c.oth b h4 (hs ⟨b, 0, sp⟩ (by rw [h1]))).trans h2, h3, Nat.lt_of_lt_of_le h4 c.nx, h5⟩
theorem Lst.len {α : Type} {enc : α → Value} {e : TypeId} {n0 : Nat} {h : AHeap} {s : Slc} {xs : List α} (L : Lst enc e n0 h s xs) : s.len = xs.length := by
 obtain ⟨b, sp, h1, _⟩ := L.st
 rw [h1]
theorem Lst.app {α : Type} {enc : α → Value} {e : TypeId} {n0 bytes : Nat} {h : AHeap} {s : Slc} {xs : List α} (L : Lst enc e n0 h s xs) (ho : ∀ x, one (enc x) = true) (ys : List α) (hy : ys ≠ []) (hs : 2 * (xs.length + ys.length) * bytes ≤ 281474976710656) (h1 : 1 ≤ bytes) (hn : n0 ≤ h.next) :
  ∃ s' h', appendA 1 bytes e h s (ys.map enc) ys.length = some (s', h') ∧ Lst enc e n0 h' s' (xs ++ ys) ∧ Chg (fun x => n0 ≤ x) h h' := by
 obtain ⟨b, sp, rfl, g2, g3, g4, g5⟩ := L.st
 have l2 : ys.length ≠ 0 := fun q => hy (List.length_eq_zero_iff.1 q)
 have l1 : 0 < xs.length := List.length_pos_iff.2 L.ne
 rcases g5 with rfl | rfl
 ·have hr := rdL_all g2
  rw [List.length_map] at hr
  refine ⟨⟨some ⟨h.next, 0, some 2⟩, (xs ++ ys).length, (xs ++ ys).length⟩, h.new (outB enc e (xs ++ ys)), ?_, ⟨by simp [hy], h.next, _, rfl, by simp, hn, by simp, .inr rfl⟩, Chg.new _ _⟩
  unfold appendA
  rw [if_neg (by simp; omega), if_pos ⟨by simpa using hs, h1⟩]
  simp only [Nat.mul_one, hr]
  simp [outB]
 ·have g : Grown enc e h b (⟨some ⟨b, 0, some 2⟩, xs.length, xs.length⟩ : Slc) xs := ⟨rfl, g2, L.ne⟩
  exact ⟨_, _, g.append ho hy hs h1, ⟨by simp [hy], h.next, _, rfl, by simp, hn, by simp, .inr rfl⟩, Chg.kill_new (.inr g3)⟩
def encU (x : UInt32) : Value := .int .u32 (x.toNat : Int)
theorem u32_lt (x : UInt32) : x.toNat < 4294967296 := x.toNat_lt
theorem wr_u32 (n : Int) (h₀ : 0 ≤ n) (h₁ : n < 2 ^ 32) : IntKind.u32.wrap n = n := by rw [Go.IntKind.wrap_u32]; omega
theorem wr_u64 (n : Int) (h₀ : 0 ≤ n) (h₁ : n < 18446744073709551616) : IntKind.u64.wrap n = n := by
 have e : n % (2 ^ IntKind.u64.bits : Int) = n := Int.emod_eq_of_lt h₀ (by show n < 18446744073709551616; omega)
 unfold IntKind.wrap
 simp only [e]
 rw [if_neg]
 intro h
 simp only [Bool.and_eq_true] at h
 exact absurd h.1 (by decide)
theorem xorU (x y : UInt32) : Go.bits .xor .u32 (x.toNat : Int) (y.toNat : Int) = ((x ^^^ y).toNat : Int) := by
 rw [UInt32.toNat_xor]; exact bx .u32 32 (by decide) wr_u32 _ _ (u32_lt x) (u32_lt y)
theorem andU (x y : UInt32) : Go.bits .and .u32 (x.toNat : Int) (y.toNat : Int) = ((x &&& y).toNat : Int) := by
 rw [UInt32.toNat_and]; exact (bits_nat .u32 32 (by decide) wr_u32 _ _ (u32_lt x) (u32_lt y)).1
theorem orU (x y : UInt32) : Go.bits .or .u32 (x.toNat : Int) (y.toNat : Int) = ((x ||| y).toNat : Int) := by
 rw [UInt32.toNat_or]; exact (bits_nat .u32 32 (by decide) wr_u32 _ _ (u32_lt x) (u32_lt y)).2
theorem addU (x y : UInt32) : IntKind.wrap .u32 ((x.toNat : Int) + (y.toNat : Int)) = ((x + y).toNat : Int) := by
 rw [UInt32.toNat_add, Go.IntKind.wrap_u32]
 have := u32_lt x; have := u32_lt y
 omega
theorem notU (x : UInt32) : Go.bits .xor .u32 (IntKind.max .u32) (x.toNat : Int) = ((~~~x).toNat : Int) := by
 have e : (IntKind.max .u32) = (((4294967295 : UInt32).toNat : Nat) : Int) := by decide
 rw [e, xorU]
 congr 2
theorem shrU (x : UInt32) (n : Nat) (hn : n < 32) : Int.fdiv (x.toNat : Int) ((2 ^ n : Nat) : Int) = ((x >>> (UInt32.ofNat n)).toNat : Int) := by
 rw [UInt32.toNat_shiftRight]
 have e : (UInt32.ofNat n).toNat % 32 = n := by
  rw [UInt32.toNat_ofNat']
  omega
 rw [e, Nat.shiftRight_eq_div_pow, Int.fdiv_eq_ediv_of_nonneg _ (Int.natCast_nonneg _)]
 simp
theorem shlU (x : UInt32) (n : Nat) (hn : n < 32) : IntKind.wrap .u32 ((x.toNat : Int) * ((2 ^ n : Nat) : Int)) = ((x <<< (UInt32.ofNat n)).toNat : Int) := by
 rw [UInt32.toNat_shiftLeft]
 have e : (UInt32.ofNat n).toNat % 32 = n := by
  rw [UInt32.toNat_ofNat']
  omega
 rw [e, Nat.shiftLeft_eq, Go.IntKind.wrap_u32]
 have : (x.toNat : Int) * ((2 ^ n : Nat) : Int) = ((x.toNat * 2 ^ n : Nat) : Int) := by simp
 rw [this]
 show ((x.toNat * 2 ^ n : Nat) : Int) % 4294967296 = ((x.toNat * 2 ^ n % 4294967296 : Nat) : Int)
 omega
def filU (f : Nat → UInt32) (T i : Nat) : List Value := (List.range i).map (fun j => encU (f j)) ++ List.replicate (T - i) (.int .u32 0)
theorem filU_length {f : Nat → UInt32} {T i : Nat} (hi : i ≤ T) : (filU f T i).length = T := by simp [filU]; omega
theorem filU_get {f : Nat → UInt32} {T i j : Nat} (hj : j < i) : (filU f T i)[j]? = some (.int .u32 ((f j).toNat : Int)) := by
 unfold filU
 rw [List.getElem?_append_left (by simpa using hj)]
 simp [hj, encU]
theorem filU_set {f : Nat → UInt32} {T i : Nat} (hi : i < T) : (filU f T i).set i (.int .u32 ((f i).toNat : Int)) = filU f T (i + 1) := by
 unfold filU
 have e1 : ((List.range i).map fun j => encU (f j)).length = i := by simp
 rw [List.set_append_right _ _ (by rw [e1]; exact Nat.le_refl _), e1, Nat.sub_self, show T - i = (T - (i + 1)) + 1 by omega, List.replicate_succ, List.set_cons_zero, List.range_succ, List.map_append, List.append_assoc]
 rfl
theorem filU_all {f : Nat → UInt32} {T : Nat} : filU f T T = (List.range T).map fun j => encU (f j) := by simp [filU]
theorem filU_zero {f : Nat → UInt32} {T : Nat} : filU f T 0 = List.replicate T (.int .u32 0) := by simp [filU]
theorem allOne_U (f : Nat → UInt32) (l : List Nat) : allOne (l.map fun j => encU (f j)) = true := by
 induction l with
 | nil => rfl
 | cons x l ih => simpa [allOne, encU, one] using ih
def rotr (x : UInt32) (n : Nat) : UInt32 := (x <<< (UInt32.ofNat (32 - n))) ||| (x >>> (UInt32.ofNat n))
end Gx
namespace Gx
open Go
structure RowW {α : Type} (w : Nat) (enc : α → List Value) (h : AHeap) (s : Slc) (xs : List α) : Prop where
 len : s.len = xs.length
 at' : ∀ (i : Nat) (x : α), xs[i]? = some x → ∃ a c e r fz, s.a = some a ∧ a.block < h.next ∧ h.get a.block = some (.cells c e r fz) ∧ ∀ (j : Nat) (v : Value), (enc x)[j]? = some v → c[a.off + i * w + j]? = some v
section
variable {α : Type} {w : Nat} {enc : α → List Value} {h h' : AHeap} {s : Slc} {xs : List α}
theorem RowW.nil (w : Nat) (enc : α → List Value) (h : AHeap) (a : Option Addr) (cap : Nat) : RowW w enc h ⟨a, 0, cap⟩ [] := ⟨rfl, fun i x hx => by simp at hx⟩
theorem RowW.chg {S : Nat → Prop} (R : RowW w enc h s xs) (c : Chg S h h') (hs : ∀ a, s.a = some a → ¬ S a.block) : RowW w enc h' s xs :=
 ⟨R.len, fun i x hx => by
  obtain ⟨a, cs, e, r, fz, h1, h2, h3, h4⟩ := R.at' i x hx
  exact ⟨a, cs, e, r, fz, h1, Nat.lt_of_lt_of_le h2 c.nx, (c.oth _ h2 (hs a h1)).trans h3, h4⟩⟩
theorem RowW.keeps (R : RowW w enc h s xs) (c : Keeps h h') : RowW w enc h' s xs := R.chg c fun _ _ f => f
theorem RowW.ld (R : RowW w enc h s xs) (hw : ∀ x, (enc x).length = w) (hw0 : 0 < w) {i : Nat} {x : α} (hx : xs[i]? = some x) :
  ∃ q, idxL w s (i : Int) = some q ∧ ldA w q h = some (enc x) ∧ (∀ (j : Nat) (k : IntKind) (n : Int), (enc x)[j]? = some (.int k n) → ldI k ⟨q.block, q.off + j, none⟩ h = some n) ∧ (∀ (j : Nat) (t : ByteArray), (enc x)[j]? = some (.string t) → ldS ⟨q.block, q.off + j, none⟩ h = some t) := by
 obtain ⟨a, c, e, r, fz, h1, h2, h3, h4⟩ := R.at' i x hx
 have hi : i < s.len := by rw [R.len]; exact (List.getElem?_eq_some_iff.1 hx).1
 refine ⟨⟨a.block, a.off + i * w, none⟩, ?_, ?_, fun j k n hj => sldI_at h3 (h4 j _ hj), fun j t hj => ?_⟩
 ·simp only [idxL, h1]
  rw [if_pos (by omega), Int.toNat_natCast]
 ·obtain ⟨m, rfl⟩ : ∃ m, w = m + 1 := ⟨w - 1, by omega⟩
  have hl : (enc x).length = m + 1 := hw x
  obtain ⟨v, hv⟩ := isome (l := enc x) (i := m) (by omega)
  have hlt := (List.getElem?_eq_some_iff.1 (h4 m v hv)).1
  simp only [ldA, AHeap.rdL, h3]
  rw [if_pos (by omega)]
  congr 1
  apply List.ext_getElem?
  intro j
  rw [List.getElem?_take, List.getElem?_drop]
  by_cases hj : j < m + 1
  ·obtain ⟨u, hu⟩ := isome (l := enc x) (i := j) (by omega)
   rw [if_pos hj, hu]; exact h4 j u hu
  ·rw [if_neg hj, List.getElem?_eq_none (by omega)]
 ·simp [ldS, AHeap.rd1, h3, h4 j _ hj, decS]
theorem flatW_length (hw : ∀ x, (enc x).length = w) : ∀ xs : List α, (xs.flatMap enc).length = xs.length * w
 | [] => by simp
 | x :: xs => by rw [List.flatMap_cons, List.length_append, flatW_length hw xs, hw x, List.length_cons, Nat.succ_mul]; omega
theorem flatW_get (hw : ∀ x, (enc x).length = w) : ∀ {xs : List α} {i : Nat} {x : α}, xs[i]? = some x → ∀ (j : Nat) (v : Value), (enc x)[j]? = some v → (xs.flatMap enc)[i * w + j]? = some v
 | [], i, x, h, _, _, _ => by simp at h
 | y :: xs, 0, x, h, j, v, hv => by
  simp at h; subst h
  have hj : j < (enc y).length := (List.getElem?_eq_some_iff.1 hv).1
  rw [List.flatMap_cons, Nat.zero_mul, Nat.zero_add, List.getElem?_append_left hj]; exact hv
 | y :: xs, i + 1, x, h, j, v, hv => by
  have := flatW_get hw (xs := xs) (i := i) (x := x) (by simpa using h) j v hv
  rw [List.flatMap_cons, List.getElem?_append_right (by rw [hw y, Nat.succ_mul]; omega), hw y, show (i + 1) * w + j - w = i * w + j by rw [Nat.succ_mul]; omega]
  exact this
theorem flatW_one (ho : ∀ x, allOne (enc x) = true) : ∀ xs : List α, allOne (xs.flatMap enc) = true := by
 have app : ∀ a b : List Value, allOne a = true → allOne b = true → allOne (a ++ b) = true := fun a b ha hb => by
  induction a with
  | nil => exact hb
  | cons v a ih => simp [allOne] at ha ⊢; exact ⟨ha.1, ih ha.2⟩
 intro xs
 induction xs with
 | nil => rfl
 | cons x xs ih => rw [List.flatMap_cons]; exact app _ _ (ho x) ih
theorem rowW_blk (hw : ∀ x, (enc x).length = w) {b n cap : Nat} {sp : Option Nat} {ys : List α} {e : TypeId} {r : Bool} {fz : Nat} (hb : h.get b = some (.cells (ys.flatMap enc) e r fz)) (hl : b < h.next) (hn : n ≤ ys.length) : RowW w enc h ⟨some ⟨b, 0, sp⟩, n, cap⟩ (ys.take n) :=
 ⟨by rw [List.length_take]; show n = min n ys.length; omega, fun i x hx => by
  rw [List.getElem?_take] at hx
  split at hx
  ·exact ⟨_, _, _, _, _, rfl, hl, hb, fun j v hv => by rw [Nat.zero_add]; exact flatW_get hw hx j v hv⟩
  ·cases hx⟩
end
structure AccW {α : Type} (w : Nat) (enc : α → List Value) (e : TypeId) (base : Nat) (h : AHeap) (s : Slc) (xs : List α) : Prop where
 st : (s = ⟨none, 0, 0⟩ ∧ xs = []) ∨ ∃ b, s = ⟨some ⟨b, 0, some (w + 1)⟩, xs.length, xs.length⟩ ∧ h.get b = some (.cells (xs.flatMap enc) e true 0) ∧ xs ≠ []
 lt : ∀ a, s.a = some a → a.block < h.next ∧ base ≤ a.block
section
variable {α : Type} {w : Nat} {enc : α → List Value} {e : TypeId} {base : Nat} {h h' : AHeap} {s : Slc} {xs : List α}
theorem AccW.nil (w : Nat) (enc : α → List Value) (e : TypeId) (base : Nat) (h : AHeap) : AccW w enc e base h ⟨none, 0, 0⟩ [] := ⟨.inl ⟨rfl, rfl⟩, fun a ha => by cases ha⟩
theorem AccW.chg {S : Nat → Prop} (A : AccW w enc e base h s xs) (c : Chg S h h') (hs : ∀ a, s.a = some a → ¬ S a.block) : AccW w enc e base h' s xs := by
 refine ⟨A.st.imp id ?_, fun a ha => ⟨Nat.lt_of_lt_of_le (A.lt a ha).1 c.nx, (A.lt a ha).2⟩⟩
 rintro ⟨b, h1, h2, h3⟩
 have hb := A.lt ⟨b, 0, some (w + 1)⟩ (by rw [h1])
 exact ⟨b, h1, (c.oth b hb.1 (hs ⟨b, 0, some (w + 1)⟩ (by rw [h1]))).trans h2, h3⟩
theorem AccW.keeps (A : AccW w enc e base h s xs) (c : Keeps h h') : AccW w enc e base h' s xs := A.chg c fun _ _ f => f
theorem AccW.row (A : AccW w enc e base h s xs) (hw : ∀ x, (enc x).length = w) : RowW w enc h s xs := by
 rcases A.st with ⟨rfl, rfl⟩ | ⟨b, rfl, h2, h3⟩
 ·exact RowW.nil _ _ _ _ _
 ·have := rowW_blk (cap := xs.length) (sp := some (w + 1)) hw h2 (A.lt ⟨b, 0, some (w + 1)⟩ rfl).1 (Nat.le_refl _)
  rw [List.take_length] at this
  exact this
theorem AccW.take (A : AccW w enc e base h s xs) (hw : ∀ x, (enc x).length = w) {n : Nat} (hn : n ≤ xs.length) (hx : 0 < xs.length) : ∃ t, subL w s none (some (n : Int)) none = some t ∧ RowW w enc h t (xs.take n) ∧ ∀ a, t.a = some a → base ≤ a.block ∧ a.block < h.next := by
 rcases A.st with ⟨_, rfl⟩ | ⟨b, rfl, h2, h3⟩
 ·simp at hx
 ·have hb := A.lt ⟨b, 0, some (w + 1)⟩ rfl
  refine ⟨⟨some ⟨b, 0, some (w + 1)⟩, n, xs.length⟩, ?_, rowW_blk hw h2 hb.1 hn, fun a ha => by cases ha; exact ⟨hb.2, hb.1⟩⟩
  simp only [subL, Option.getD_none, Option.getD_some]
  rw [if_pos (by omega), if_pos (by simp [spOk])]
  simp
theorem rdS_oneW (hw : ∀ x, (enc x).length = w) (x : α) (e : TypeId) : rdS w (⟨some ⟨h.next, 0, some 0⟩, 1, 1⟩ : Slc) (h.new (.cells (enc x) e true 0)) = some (enc x) := by
 have := rdL_all (h := h.new (.cells (enc x) e true 0)) (b := h.next) (c := enc x) (e := e) (r := true) (fz := 0) (by simp)
 rw [hw x] at this
 simpa [rdS] using this
theorem AccW.push (A : AccW w enc e base h s xs) (hw : ∀ x, (enc x).length = w) (ho : ∀ x, allOne (enc x) = true) (x : α) {bytes : Nat} (h1 : 1 ≤ bytes) (hs : 2 * (xs.length + 1) * bytes ≤ 281474976710656) (hbase : base ≤ h.next) :
  ∃ s' h', appendA w bytes e (h.new (.cells (enc x) e true 0)) s (enc x) 1 = some (s', h') ∧ AccW w enc e base h' s' (xs ++ [x]) ∧ Chg (ofS s) h h' ∧ ∀ a, s'.a = some a → h.next ≤ a.block := by
 obtain ⟨g1, hg1⟩ : ∃ g1, g1 = h.new (.cells (enc x) e true 0) := ⟨_, rfl⟩
 have k1 : Keeps h g1 := hg1 ▸ Keeps.new h _
 have n1 : g1.next = h.next + 1 := by rw [hg1]; rfl
 rw [← hg1]
 have A1 := A.keeps k1
 rcases A1.st with ⟨rfl, rfl⟩ | ⟨b, rfl, h2, h3⟩
 ·refine ⟨⟨some ⟨g1.next, 0, some (w + 1)⟩, 1, 1⟩, g1.new (.cells (enc x) e true 0), ?_, ⟨.inr ⟨g1.next, rfl, by simp, by simp⟩, ?_⟩, (k1.trans (Keeps.new g1 _)).wk fun _ _ f => f.elim, ?_⟩
  ·simp only [appendA]
   rw [if_neg (by omega), if_pos (by simp at hs ⊢; omega)]
  ·intro a ha; cases ha; simp; omega
  ·intro a ha; cases ha; simp; omega
 ·have hb := A1.lt ⟨b, 0, some (w + 1)⟩ rfl
  have hl := flatW_length hw xs
  have hx : 0 < xs.length := List.length_pos_iff.2 h3
  refine ⟨⟨some ⟨g1.next, 0, some (w + 1)⟩, xs.length + 1, xs.length + 1⟩, (g1.kill b).new (.cells ((xs ++ [x]).flatMap enc) e true 0), ?_, ⟨.inr ⟨g1.next, by simp, by simp, by simp⟩, ?_⟩, Chg.beh (T := (· = b)) (Chg.keeps k1) (Chg.kill_new (.inr rfl)) fun y hy q => ⟨⟨b, 0, some (w + 1)⟩, rfl, q⟩, ?_⟩
  ·simp only [appendA]
   rw [if_neg (by omega), if_pos ⟨hs, h1⟩]
   simp only [h2]
   rw [if_pos ⟨by omega, trivial, by omega, by omega, trivial, trivial, ho x⟩, ← hl, List.take_length, List.flatMap_append]
   simp
  ·intro a ha; cases ha; simp; omega
  ·intro a ha; cases ha; simp; omega
end
end Gx
namespace Gx
open Go
def newK {α : Type} (h : AHeap) (B : ABlk) (f : AHeap → α) : α := f (h.new B)
theorem Wp.new {R : Type} {Q : R → Prop} {h : AHeap} {B : ABlk} {f : AHeap → Option R} (k : ∀ H : AHeap, Keeps h H → H.next = h.next + 1 → H.get h.next = some B → Wp (f H) Q) : Wp (newK h B f) Q :=
 k _ (Keeps.new h B) rfl (by simp)
theorem Chg.got {S : Nat → Prop} {h h' : AHeap} {x : Nat} {B : ABlk} (c : Chg S h h') (hx : x < h.next) (hs : ¬ S x) (g : h.get x = some B) : h'.get x = some B := (c.oth x hx hs).trans g
theorem Keeps.got {h h' : AHeap} {x : Nat} {B : ABlk} (c : Keeps h h') (hx : x < h.next) (g : h.get x = some B) : h'.get x = some B := (c.oth x hx fun f => f).trans g
theorem Wp.st {R : Type} {Q : R → Prop} {h : AHeap} {b o : Nat} {sp : Option Nat} {c : List Value} {e : TypeId} {v : Value} {f : AHeap → Option R} (hb : h.get b = some (.cells c e true 0)) (ho : o < c.length) (hv : one v = true)
  (k : ∀ H : AHeap, Chg (· = b) h H → H.next = h.next → H.get b = some (.cells (c.set o v) e true 0) → Wp (f H) Q) : Wp ((st1 ⟨b, o, sp⟩ v h).bind f) Q :=
 Wp.bnd (st1_of hb ho hv) (k _ (Chg.set (.inr rfl)) rfl (by simp))
theorem Wp.stL {R : Type} {Q : R → Prop} {h : AHeap} {b n : Nat} {sp : Option Nat} {c cs : List Value} {e : TypeId} {f : AHeap → Option R} (hb : h.get b = some (.cells c e true 0)) (hc : c.length = n) (hl : cs.length = n) (ho : allOne cs = true) (hn : n ≠ 0)
  (k : ∀ H : AHeap, Chg (· = b) h H → H.next = h.next → H.get b = some (.cells cs e true 0) → Wp (f H) Q) : Wp ((Gx.stL n ⟨b, 0, sp⟩ cs h).bind f) Q :=
 Wp.bnd (sstL_at hb hc hl ho hn) (k _ (Chg.set (.inr rfl)) rfl (by simp))
theorem Chg.keepsS {S : Nat → Prop} {h h1 h2 : AHeap} (a : Keeps h h1) (c : Chg S h1 h2) (hs : ∀ y, S y → h.next ≤ y) : Keeps h h2 := Chg.beh a c fun y hy q => by have := hs y q; omega
end Gx
namespace Gx
open Go
theorem Wp.newE {R : Type} {Q : R → Prop} {h : AHeap} {B : ABlk} {f : AHeap → Option R} (k : ∀ H : AHeap, H = h.new B → Keeps h H → H.next = h.next + 1 → H.get h.next = some B → Wp (f H) Q) : Wp (newK h B f) Q :=
 k _ rfl (Keeps.new h B) rfl (by simp)
theorem Acc.pushK {α : Type} {enc : α → Value} {e : TypeId} {base bytes : Nat} {h H : AHeap} {s : Slc} {xs : List α} (A : Acc enc e base h s xs) (ho : ∀ x, one (enc x) = true) (x : α) (eH : H = h.new (.cells [enc x] e true 0)) (hs : 2 * (xs.length + 1) * bytes ≤ 281474976710656) (h1 : 1 ≤ bytes) (hbase : base ≤ h.next) :
  ∃ s' h', rdS 1 (⟨some ⟨h.next, 0, some 0⟩, 1, 1⟩ : Slc) H = some [enc x] ∧ appendA 1 bytes e H s [enc x] 1 = some (s', h') ∧ Acc enc e base h' s' (xs ++ [x]) ∧ Chg (ofS s) h h' ∧ ∀ a, s'.a = some a → h.next ≤ a.block := by
 subst eH
 obtain ⟨s', h', a, A', c, d⟩ := A.push ho x hs h1 hbase
 exact ⟨s', h', rdS_one, a, A', c, d⟩
end Gx
namespace Gx
open Go Go.RowKit
section
variable {G : Nat} {P : Program}
end
end Gx
namespace Gx
open Go Go.RowKit
open Go.Proofs (encStr)
section
variable {G : Nat} {P : Program}
theorem fnS_callsN {g : FuncId} {fn : Func} {c : Code} {args : List Value} {h h' : AHeap} {v : Value} (hf : P.funcs[g]? = some fn) (hb : fn.body = some c) (hname : (fn.name == "runtime.NumGoroutine") = false) (hn : h.next ≤ h'.next)
  (k : ∀ (μ : BMap) (w : World) (args' : List Value), Sim G μ h w → Zed μ h.next h'.next → VRs μ args args' → Calls P g ⟨args'⟩ w fun e w' => ∃ μ' v', e = .returned v' ∧ VR μ' v v' ∧ Step G μ h w μ' h' w') : FnS P G g args h v h' := by
 refine ⟨hn, fun μ w args' s z hv o a next Q hnext => ?_⟩
 have hcall : (callFunc g ⟨args'⟩).run P w = .ok (.enter g ⟨args'⟩) w := by
  have hne : ¬ fn.name = "runtime.NumGoroutine" := by simpa using hname
  simp [callFunc, hf, hne, hb]
 rw [hcall, Oper.upon_enter]
 refine (k μ w args' s z hv).mono ?_
 rintro e w' ⟨μ', v', rfl, h1, h2⟩
 exact hnext v' w' ⟨μ', h1, h2⟩
def srt (ks : List ByteArray) : List Value := ((ks.map (·.data.toList)).mergeSort leB).map encStr
structure SortedC (P : Program) (f gk : FuncId) (e : TypeId) : Prop where
 cS : ∀ (bx b : Nat) (es : Array MapEntry) (clock : Nat) (ks : List ByteArray) (w : World), w.cell? ⟨bx, 0, none⟩ = some (.map (some b)) → w.heap[b]? = some (.map es clock) → es.toList.map (·.key) = ks.map Value.string →
  (∀ s ∈ ks, s.size ≤ 9223372036854775807) → MapKept.Stamped es clock → ks.length * 16 ≤ 140737488355328 →
  Calls P f #[.func (.func gk) #[] #[.pointer (some ⟨bx, 0, none⟩)]] w fun x w' => ∃ v, x = .returned v ∧ w'.ownsRow w.heap.size e 1 v ks.length (srt ks) ∧ (v = .slice none 0 0 ↔ ks = []) ∧ Below w.heap.size w w'
 cN : ∀ (bx : Nat) (w : World), w.cell? ⟨bx, 0, none⟩ = some (.map none) →
  Calls P f #[.func (.func gk) #[] #[.pointer (some ⟨bx, 0, none⟩)]] w fun x w' => x = .returned (.slice none 0 0) ∧ Below w.heap.size w w'
end
end Gx
namespace Gx
open Go Go.RowKit
section
variable {G : Nat} {P : Program} {f : FuncId} {fn : Func}
def ovA (s t : Slc) (h : AHeap) : Option Unit :=
 match s.a, t.a with
 | some a, some b => match h.get a.block, h.get b.block with
  | some (.cells _ _ true 0), some (.cells c _ true _) => if a.block ≠ b.block ∧ s.len ≠ 0 ∧ t.len ≠ 0 ∧ c ≠ [] then some () else none
  | _, _ => none
 | _, _ => none
def eOvl (id : FuncId) : Ent := ⟨id, fun _ args h κ => match args with
 | [.slice a n c, .slice b m d] => (ovA ⟨a, n, c⟩ ⟨b, m, d⟩ h).bind fun _ => κ (.bool false) h
 | _ => none⟩
theorem ovl_ok {tS tR e : TypeId} {size : Nat} (hf : P.funcs[f]? = some fn) (hname : (fn.name == "runtime.NumGoroutine") = false) (hb : fn.body.isNone = true) (hn : Extern.findNext fn = none)
  (he : Extern.find fn = some (Extern.SlicesOverlaps.overlaps #[tS, tS] #[tR])) (ht : P.underlying tS = some (.slice e)) (hz : ∀ w, (Go.sizeOf e).run P w = .ok size w) : EntOk P G (eOvl f) := by
 intro R args h κ r hr
 simp only [eOvl] at hr
 split at hr
 ·rename_i a n c b m d
  simp only [Option.bind_eq_some_iff] at hr
  obtain ⟨_, hA, hr⟩ := hr
  unfold ovA at hA
  split at hA
  ·rename_i ad bd ha hbd
   simp only at ha hbd
   split at hA
   ·rename_i cs e1 cs2 e2 fz h1 h2
    split at hA
    ·rename_i hc
     obtain ⟨hne, hn0, hm0, hc0⟩ := hc
     simp only at hn0 hm0
     subst ha; subst hbd
     refine ⟨_, h, hr, fnS_value (Nat.le_refl _) fun μ w args' sm z hv => ?_⟩
     obtain ⟨p', u', rfl, hp, hu⟩ := hv.two_inv
     cases hp with
     | empty _ => exact absurd rfl hn0
     | slice hma hca =>
      cases hu with
      | empty _ => exact absurd rfl hm0
      | slice hmb hcb =>
       rename_i b1 o1 c1 d1 z1 m1 sp1 b2 o2 c2 d2 z2 m2 sp2
       simp only at h1 h2 hne
       obtain ⟨x1, lo1, hi1, hO1, hz1, hc1, hrw1⟩ := sm.obj h1 hma
       obtain ⟨x2, lo2, hi2, hO2, hz2, hc2, hrw2⟩ := sm.obj h2 hmb
       have hcc : c1 ≠ c2 := sm.inj b1 b2 _ _ _ _ h1 h2 hne rfl hma hmb
       have hmk := (hrw1 rfl).2.2 (by decide)
       have hnf : ∀ i, w.frozen? ⟨c1, i, none⟩ = false := fun i => by
        rw [frozen_of_heap hO1]
        rw [Bool.and_eq_false_iff]
        rcases hmk.1 with h | h
        ·by_cases hx : lo1 ≤ i
         ·right; simp; omega
         ·left; simpa using hx
        ·right; simp; omega
       have hx2 : x2.size ≠ 0 := by
        obtain ⟨v, t, e⟩ := List.exists_cons_of_ne_nil hc0
        obtain ⟨v', q1, _⟩ := hc2 0 v (by rw [e]; rfl)
        have := (Array.getElem?_eq_some_iff.1 q1).1
        omega
       have hrun := Lib.run_overlaps_apart (P := P) w tS tR e ht size hz ⟨c1, d1 + o1, none⟩ ⟨c2, d2 + o2, none⟩ n m1 m m2 hcc e1 e2 x1.size x2.size (by simp [World.shape?, hO1]) (by simp [World.shape?, hO2]) hx2 (hnf _) (hnf _)
       refine ⟨μ, _, w, ?_, .bool _, .refl sm⟩
       have e3 : ∀ x y : Value, (⟨[x, y]⟩ : Array Value) = #[x, y] := fun _ _ => rfl
       rw [e3]
       show (callFunc f _).run P w = _
       rw [run_callFunc_extern hf hname hb hn he, hrun]
       rfl
    ·cases hA
   ·cases hA
  ·cases hA
 ·cases hr
def tabIn (e o n : Nat) : List (Nat × Nat × Nat) → Bool
 | [] => false
 | x :: l => (Nat.beq x.1 e && Nat.beq x.2.1 o && Nat.ble x.2.2 n) || tabIn e o n l
theorem tabIn_mem {e o n : Nat} : ∀ {l : List (Nat × Nat × Nat)}, tabIn e o n l = true → ∃ s, (e, o, s) ∈ l ∧ s ≤ n
 | [], h => by cases h
 | x :: l, h => by
  simp only [tabIn, Bool.or_eq_true, Bool.and_eq_true] at h
  rcases h with ⟨⟨h1, h2⟩, h3⟩ | h
  ·have h1 := Nat.eq_of_beq_eq_true h1
   have h2 := Nat.eq_of_beq_eq_true h2
   obtain ⟨a, b, c⟩ := x
   simp only at h1 h2 h3
   subst h1; subst h2
   exact ⟨c, List.mem_cons_self, Nat.le_of_ble_eq_true h3⟩
  ·obtain ⟨s, h1, h2⟩ := tabIn_mem h
   exact ⟨s, List.mem_cons_of_mem _ h1, h2⟩
def ccA (tab : List (Nat × Nat × Nat)) (a : Addr) (h : AHeap) : Option AHeap :=
 match h.get a.block with
 | some (.cells c e true _) => if tabIn e a.off c.length tab = true ∧ a.spot = none then
   match c[a.off]? with
   | some (.pointer none) => st1 a (.pointer (some a)) h
   | some (.pointer (some b)) => if b = a then some h else none
   | _ => none
  else none
 | _ => none
def eCC (id : FuncId) (tab : List (Nat × Nat × Nat)) : Ent := ⟨id, fun _ args h κ => match args with
 | [.pointer p] => p.bind fun a => (ccA tab a h).bind fun h' => κ (.tuple ⟨[]⟩) h'
 | _ => none⟩
theorem cc_ok {tab : List (Nat × Nat × Nat)} {tb : TypeId} {c0 : Code} (hf : P.funcs[f]? = some fn) (hb : fn.body = some c0) (hname : (fn.name == "runtime.NumGoroutine") = false)
  (hused : ∀ (b o : Nat) (w : World), w.cell? ⟨b, o, none⟩ = some (.pointer (some ⟨b, o, none⟩)) → Calls P f #[.pointer (some ⟨b, o, none⟩)] w fun e w' => e = .returned (.tuple #[]) ∧ w' = w)
  (hfresh : ∀ (b o : Nat) (w : World) (T : TypeId) (z : Nat), w.cell? ⟨b, o, none⟩ = some (.pointer none) → w.shape? b = some (T, z) → o < z → liesAt P P.depth T (z / P.cellsOf T) o tb 1 = true → w.frozen? ⟨b, o, none⟩ = false →
   Calls P f #[.pointer (some ⟨b, o, none⟩)] w fun e w' => e = .returned (.tuple #[]) ∧ w' = w.setCell ⟨b, o, none⟩ (.pointer (some ⟨b, o, none⟩)))
  (htab : ∀ x ∈ tab, P.cellsOf x.1 = x.2.2 ∧ 0 < x.2.2 ∧ ∀ N, liesAt P P.depth x.1 (N + 1) x.2.1 tb 1 = true) : EntOk P G (eCC f tab) := by
 intro R args h κ r hr
 simp only [eCC] at hr
 split at hr
 ·rename_i p
  simp only [Option.bind_eq_some_iff] at hr
  obtain ⟨a, rfl, h', hA, hr⟩ := hr
  unfold ccA at hA
  split at hA
  ·rename_i c e fz hget
   split at hA
   ·rename_i hc
    obtain ⟨htb, hsp⟩ := hc
    obtain ⟨s, hmem, hle⟩ := tabIn_mem htb
    obtain ⟨t1, t2, t3⟩ := htab _ hmem
    simp only at t1 t2 t3
    have inv : ∀ {μ : BMap} {w : World} {args' : List Value}, Sim G μ h w → VRs μ [.pointer (some a)] args' → ∃ cb z c', a = ⟨a.block, a.off, none⟩ ∧ args' = [.pointer (some ⟨cb, a.off, none⟩)] ∧ μ a.block = some (cb, 0, z) ∧ (∃ lo hi, w.heap[cb]? = some (.cells c' e (lo, hi))) ∧ c'.size = z ∧
      (∀ (i : Nat) (v : Value), c[i]? = some v → ∃ v', c'[i]? = some v' ∧ VR μ v v') := by
     intro μ w args' sm hv
     obtain ⟨p', rfl, hp⟩ := hv.one_inv
     obtain ⟨b, o, cb, d, z, rfl, rfl, hm⟩ := vr_ptr hp
     simp only at hget
     obtain ⟨c', lo, hi, hO, hz, hcc, hrw⟩ := sm.obj hget hm
     obtain ⟨rfl, _⟩ := hrw rfl
     exact ⟨cb, z, c', rfl, by simp, hm, ⟨lo, hi, hO⟩, hz, fun i v hi => by simpa using hcc i v hi⟩
    split at hA
    ·rename_i hcell
     have hlt : a.off < c.length := (List.getElem?_eq_some_iff.1 hcell).1
     have hnx := st1_next hA
     refine ⟨_, h', hr, fnS_callsN hf hb hname (Nat.le_of_eq hnx.symm) fun μ w args' sm zd hv => ?_⟩
     obtain ⟨cb, z, c', ea, rfl, hm, ⟨lo, hi, hO⟩, hz, hcc⟩ := inv sm hv
     obtain ⟨v', q1, q2⟩ := hcc _ _ hcell
     have e0 : v' = .pointer none := by cases q2; rfl
     subst e0
     have hlen : c.length ≤ z := by
      have : c.length - 1 < c.length := by omega
      obtain ⟨v', q3, _⟩ := hcc _ _ (List.getElem?_eq_getElem this)
      have := (Array.getElem?_eq_some_iff.1 q3).1
      omega
     have hcl : w.cell? ⟨cb, a.off, none⟩ = some (.pointer none) := by rw [cell_of_heap hO]; exact q1
     obtain ⟨w', r1, r2⟩ := sm.store1 (P := P) (o := a.off) (v' := .pointer (some ⟨cb, 0 + a.off, none⟩)) hm hA (by rw [ea]; exact .ptr hm)
     simp only [Nat.zero_add] at r1
     rw [run_store P w _ _ _ rfl, hcl] at r1
     simp only at r1
     cases hz2 : w.frozen? ⟨cb, a.off, none⟩ with
     | true => rw [hz2] at r1; simp at r1
     | false =>
      rw [hz2] at r1; simp at r1; subst r1
      have hN : ∃ N, z / P.cellsOf e = N + 1 := ⟨z / s - 1, by
       rw [t1]
       have : 1 ≤ z / s := (Nat.one_le_div_iff t2).2 (by omega)
       omega⟩
      obtain ⟨N, hN⟩ := hN
      refine (hfresh cb a.off w e z hcl (by simp [World.shape?, hO, hz]) (by omega) (by rw [hN]; exact t3 N) hz2).mono ?_
      rintro e' w' ⟨rfl, rfl⟩
      exact ⟨μ, _, rfl, .unit, r2⟩
    ·rename_i b hcell
     split at hA
     ·rename_i hba
      subst hba
      cases hA
      refine ⟨_, h, hr, fnS_callsN hf hb hname (Nat.le_refl _) fun μ w args' sm zd hv => ?_⟩
      obtain ⟨cb, z, c', ea, rfl, hm, ⟨lo, hi, hO⟩, hz, hcc⟩ := inv sm hv
      obtain ⟨v', q1, q2⟩ := hcc _ _ hcell
      obtain ⟨b1, o1, cb1, d1, z1, e1, rfl, hm1⟩ := vr_ptr q2
      have hb1 : b.block = b1 := by rw [e1]
      have ho1 : b.off = o1 := by rw [e1]
      subst hb1; subst ho1
      rw [hm] at hm1; cases hm1
      refine (hused cb b.off w (by rw [cell_of_heap hO, q1]; simp)).mono ?_
      rintro e' w' ⟨rfl, rfl⟩
      exact ⟨μ, _, rfl, .unit, .refl sm⟩
     ·cases hA
    ·cases hA
   ·cases hA
  ·cases hA
 ·cases hr
end
end Gx
namespace Gx
open Go Go.RowKit
def insF (sz bytes : Nat) (el : TypeId) (Z : List Value) (s : Slc) (i : Int) (v : Slc) (h : AHeap) : Option (Slc × AHeap) :=
 (Gx.subL sz s (some i) none none).bind fun _ =>
 (if ((v.len : Int) == 0) = true then some (s, h) else
 (if (i == (s.len : Int)) = true then
 (rdS sz v h).bind fun n3 =>
 (appendA sz bytes el h s n3 v.len).bind fun r2 =>
 some (r2.1, r2.2)
 else
 (capOf s).bind fun c4 =>
 (if (decide ((IntKind.wrap .i64 ((s.len : Int) + (v.len : Int))) > c4)) = true then
 (Gx.subL sz s none (some i) none).bind fun l5 =>
 let t6 : Int := (IntKind.wrap .i64 ((IntKind.wrap .i64 ((s.len : Int) + (v.len : Int))) - i))
 (if 0 ≤ t6 ∧ t6 ≤ 281474976710656 ∧ t6 * bytes ≤ 281474976710656 then
 (appendA sz bytes el h l5 (zerosL (t6).toNat Z) (t6).toNat).bind fun r7 =>
 (Gx.subL sz r7.1 (some i) none none).bind fun l8 =>
 (rdS sz v r7.2).bind fun n10 =>
 (copyA sz r7.2 l8 (min v.len l8.len) n10).bind fun h9 =>
 (Gx.subL sz r7.1 (some (IntKind.wrap .i64 (i + (v.len : Int)))) none none).bind fun l11 =>
 (Gx.subL sz s (some i) none none).bind fun l12 =>
 (rdS sz l12 h9).bind fun n14 =>
 (copyA sz h9 l11 (min l12.len l11.len) n14).bind fun h13 =>
 some (r7.1, h13)
 else none)
 else
 (Gx.subL sz s none (some (IntKind.wrap .i64 ((s.len : Int) + (v.len : Int)))) none).bind fun l15 =>
 (Gx.subL sz l15 (some (IntKind.wrap .i64 (i + (v.len : Int)))) none none).bind fun l16 =>
 (ovA v l16 h).bind fun _ =>
 (Gx.subL sz l15 (some (IntKind.wrap .i64 (i + (v.len : Int)))) none none).bind fun l19 =>
 (Gx.subL sz l15 (some i) none none).bind fun l20 =>
 (rdS sz l20 h).bind fun n22 =>
 (copyA sz h l19 (min l20.len l19.len) n22).bind fun h21 =>
 (Gx.subL sz l15 (some i) none none).bind fun l23 =>
 (rdS sz v h21).bind fun n25 =>
 (copyA sz h21 l23 (min v.len l23.len) n25).bind fun h24 =>
 some (l15, h24))))
def insC (sz : Nat) (c cv : List Value) (n i : Nat) : List Value := c.take (i * sz) ++ cv.take sz ++ (c.take (n * sz)).drop (i * sz)
def insOk (sz bytes : Nat) (el : TypeId) (s : Slc) (i : Int) (v : Slc) (h : AHeap) : Option (List Value × List Value × Nat × Nat) :=
 match s.a, v.a with
 | some a, some b => match h.get a.block, h.get b.block with
  | some (.cells c e true 0), some (.cells cv _ true 0) =>
   if a.block ≠ b.block ∧ a.off = 0 ∧ a.spot = some (sz + 1) ∧ b.off = 0 ∧ v.len = 1 ∧ 0 ≤ i ∧ i < s.len ∧ s.len * sz ≤ c.length ∧ e = el ∧ sz ≤ cv.length ∧ sz ≠ 0 ∧
    allOne (cv.take sz) = true ∧ allOne (c.take (s.len * sz)) = true ∧ 2 * (s.len + 1) * bytes ≤ 281474976710656 ∧ 1 ≤ bytes ∧ s.len ≤ s.cap then some (c, cv, a.block, b.block) else none
  | _, _ => none
 | _, _ => none
def insA (sz bytes : Nat) (el : TypeId) (F : Slc → Int → Slc → AHeap → Option (Slc × AHeap)) (s : Slc) (i : Int) (v : Slc) (h : AHeap) : Option (Slc × AHeap) :=
 match insOk sz bytes el s i v h with
 | some (c, cv, b, _) => some (⟨some ⟨h.next, 0, some (sz + 1)⟩, s.len + 1, s.len + 1⟩, (h.kill b).new (.cells (insC sz c cv s.len i.toNat) el true 0))
 | none => F s i v h
section
variable {G : Nat} {P : Program}
theorem allOne_mem : ∀ {l : List Value}, allOne l = true ↔ ∀ v ∈ l, one v = true
 | [] => by simp [allOne]
 | v :: l => by simp [allOne, allOne_mem (l := l)]
theorem allOne_sub {l m : List Value} (h : allOne l = true) (hs : ∀ v ∈ m, v ∈ l) : allOne m = true := allOne_mem.2 fun v hv => allOne_mem.1 h v (hs v hv)
theorem wr64 {x : Int} (h : -9223372036854775808 ≤ x ∧ x ≤ 9223372036854775807) : IntKind.wrap .i64 x = x := by rw [IntKind.wrap_i64]; omega
theorem wrL_ok {h : AHeap} {b o : Nat} {c vs : List Value} {e : TypeId} (hb : h.get b = some (.cells c e true 0)) (hle : o + vs.length ≤ c.length) (h1 : allOne vs = true) (hne : vs ≠ []) :
  h.wrL b o vs = some (h.set b (.cells (splice c o vs) e true 0)) := by
 cases vs with
 | nil => exact absurd rfl hne
 | cons v t =>
  unfold AHeap.wrL
  simp only [hb]
  rw [if_pos ⟨hle, Nat.zero_le _, h1⟩]
theorem rdL_ok {h : AHeap} {b o n : Nat} {c : List Value} {e : TypeId} {r : Bool} {fz : Nat} (hb : h.get b = some (.cells c e r fz)) (hle : o + n ≤ c.length) : h.rdL b o n = some ((c.drop o).take n) := by
 unfold AHeap.rdL
 cases n with
 | zero => simp
 | succ n => simp only [hb]; rw [if_pos hle]
theorem splice_ins {A W v R : List Value} {k s r : Nat} (hA : A.length = k) (hv : v.length = s) (hW : W.length = s + r) (hR : R.length = r) : splice (splice (A ++ W) k v) (k + s) R = A ++ v ++ R := by
 have e1 : splice (A ++ W) k v = A ++ v ++ W.drop s := by
  unfold splice
  rw [hv, ← hA, List.take_left, List.drop_append, List.drop_of_length_le (by omega)]
  simp
 have e2 : (A ++ v).length = k + s := by rw [List.length_append, hA, hv]
 have e3 : (W.drop s).length = r := by rw [List.length_drop]; omega
 rw [e1]
 unfold splice
 rw [← e2, List.take_left, List.drop_of_length_le (by rw [List.length_append, e3, hR]; omega), List.append_nil]
theorem subL_lo {sz b o n m lo : Nat} {sp : Option Nat} (hsp : spOk sp sz = true) (h1 : lo ≤ n) (h2 : n ≤ m) (h3 : lo < m) : Gx.subL sz (⟨some ⟨b, o, sp⟩, n, m⟩ : Slc) (some (lo : Int)) none none = some ⟨some ⟨b, o + lo * sz, sp⟩, n - lo, m - lo⟩ := by
 have e1 : ((n : Int) - lo).toNat = n - lo := by omega
 have e2 : ((m : Int) - lo).toNat = m - lo := by omega
 have e3 : ¬ ((m : Int) = (lo : Int)) := by omega
 simp only [Gx.subL, Option.getD_none, Option.getD_some, hsp, if_true, e1, e2, e3, if_false, Int.toNat_natCast]
 rw [if_pos (by omega)]
 rfl
theorem subL_hi {sz b o n m hi : Nat} {sp : Option Nat} (hsp : spOk sp sz = true) (h1 : hi ≤ m) : Gx.subL sz (⟨some ⟨b, o, sp⟩, n, m⟩ : Slc) none (some (hi : Int)) none = some ⟨some ⟨b, o, sp⟩, hi, m⟩ := by
 have e1 : ((hi : Int) - 0).toNat = hi := by omega
 have e2 : ((m : Int) - 0).toNat = m := by omega
 simp only [Gx.subL, Option.getD_none, Option.getD_some, hsp, if_true, e1, e2]
 rw [if_pos (by omega)]
 simp
variable {sz bytes : Nat} {el : TypeId} {Z : List Value}
theorem ins_grow {h : AHeap} {b vb n m i vc : Nat} {c cv : List Value} {e2 : TypeId} {spv : Option Nat} (hb : h.get b = some (.cells c el true 0)) (hv : h.get vb = some (.cells cv e2 true 0)) (hi : i < n) (hn : n * sz ≤ c.length) (hm : m < n + 1) (hnm : n ≤ m)
  (hcv : sz ≤ cv.length) (hz : sz ≠ 0) (hZ : Z.length = sz) (_hZ1 : plainL Z = true) (h1v : allOne (cv.take sz) = true) (h1c : allOne (c.take (n * sz)) = true) (hbig : 2 * (n + 1) * bytes ≤ 281474976710656) (hby : 1 ≤ bytes) (hbl : b < h.next) (hvl : vb < h.next) :
  ∃ h', insF sz bytes el Z ⟨some ⟨b, 0, none⟩, n, m⟩ i ⟨some ⟨vb, 0, spv⟩, 1, vc⟩ h = some (⟨some ⟨h.next, 0, some (sz + 1)⟩, n + 1, n + 1⟩, h') ∧ h'.next = h.next + 1 ∧ ∀ x, h'.get x = if x = h.next then some (.cells (insC sz c cv n i) el true 0) else h.get x := by
 have hsmall : n + 1 ≤ 140737488355328 := by
  have : n + 1 ≤ (n + 1) * bytes := Nat.le_mul_of_pos_right _ hby
  have : 2 * (n + 1) * bytes = 2 * ((n + 1) * bytes) := by rw [Nat.mul_assoc]
  omega
 have e1 : Gx.subL sz (⟨some ⟨b, 0, none⟩, n, m⟩ : Slc) (some (i : Int)) none none = some ⟨some ⟨b, i * sz, none⟩, n - i, m - i⟩ := by simpa using subL_lo (sz := sz) (b := b) (o := 0) (sp := none) rfl (Nat.le_of_lt hi) hnm (by omega)
 have e2' : Gx.subL sz (⟨some ⟨b, 0, none⟩, n, m⟩ : Slc) none (some (i : Int)) none = some ⟨some ⟨b, 0, none⟩, i, m⟩ := subL_hi rfl (by omega)
 have ew : IntKind.wrap .i64 ((n : Int) + ((1 : Nat) : Int)) = (n : Int) + 1 := wr64 (by omega)
 have et : IntKind.wrap .i64 ((n : Int) + 1 - (i : Int)) = (n : Int) + 1 - i := wr64 (by omega)
 have etn : ((n : Int) + 1 - (i : Int)).toNat = n + 1 - i := by omega
 have hzl : (zerosL (n + 1 - i) Z).length = (n + 1 - i) * sz := by rw [zerosL_eq]; simp [List.length_flatten, hZ]
 let c1 := c.take (i * sz) ++ zerosL (n + 1 - i) Z
 let h1 := h.new (.cells c1 el true 0)
 have hisz : i * sz ≤ n * sz := Nat.mul_le_mul_right _ (by omega)
 have hin : (i + 1) * sz ≤ n * sz := Nat.mul_le_mul_right _ (by omega)
 have esum : i * sz + (n + 1 - i) * sz = (n + 1) * sz := by rw [← Nat.add_mul]; congr 1; omega
 have esum2 : (i + 1) * sz + (n - i) * sz = (n + 1) * sz := by rw [← Nat.add_mul]; congr 1; omega
 have esum3 : i * sz + (n - i) * sz = n * sz := by rw [← Nat.add_mul]; congr 1; omega
 have es1 : (i + 1) * sz = i * sz + sz := by rw [Nat.add_mul]; omega
 have hc1 : c1.length = (n + 1) * sz := by simp only [c1, List.length_append, hzl, List.length_take]; omega
 have ea : appendA sz bytes el h (⟨some ⟨b, 0, none⟩, i, m⟩ : Slc) (zerosL (n + 1 - i) Z) (n + 1 - i) = some (⟨some ⟨h.next, 0, some (sz + 1)⟩, i + (n + 1 - i), i + (n + 1 - i)⟩, h1) := by
  unfold appendA
  have h48 : 2 * (i + (n + 1 - i)) * bytes ≤ 281474976710656 := by rw [show i + (n + 1 - i) = n + 1 by omega]; exact hbig
  simp only
  rw [if_neg (by omega), if_pos ⟨h48, hby⟩, rdL_ok hb (by omega)]
  simp [h1, c1]
 have e8 : Gx.subL sz (⟨some ⟨h.next, 0, some (sz + 1)⟩, i + (n + 1 - i), i + (n + 1 - i)⟩ : Slc) (some (i : Int)) none none = some ⟨some ⟨h.next, i * sz, some (sz + 1)⟩, n + 1 - i, n + 1 - i⟩ := by
  have := subL_lo (sz := sz) (b := h.next) (o := 0) (n := i + (n + 1 - i)) (m := i + (n + 1 - i)) (lo := i) (sp := some (sz + 1)) (by simp [spOk]) (by omega) (Nat.le_refl _) (by omega)
  rw [this, show i + (n + 1 - i) - i = n + 1 - i by omega, Nat.zero_add]
 have hw2 : IntKind.wrap .i64 ((i : Int) + ((1 : Nat) : Int)) = ((i + 1 : Nat) : Int) := by rw [wr64 (by omega)]; omega
 have e11 : Gx.subL sz (⟨some ⟨h.next, 0, some (sz + 1)⟩, i + (n + 1 - i), i + (n + 1 - i)⟩ : Slc) (some ((i + 1 : Nat) : Int)) none none = some ⟨some ⟨h.next, (i + 1) * sz, some (sz + 1)⟩, n - i, n - i⟩ := by
  have := subL_lo (sz := sz) (b := h.next) (o := 0) (n := i + (n + 1 - i)) (m := i + (n + 1 - i)) (lo := i + 1) (sp := some (sz + 1)) (by simp [spOk]) (by omega) (Nat.le_refl _) (by omega)
  rw [this, show i + (n + 1 - i) - (i + 1) = n - i by omega, Nat.zero_add]
 have hbn : b ≠ h.next := by omega
 have hvn : vb ≠ h.next := by omega
 have er1 : rdS sz (⟨some ⟨vb, 0, spv⟩, 1, vc⟩ : Slc) h1 = some (cv.take sz) := by
  simp only [rdS]
  rw [rdL_ok (c := cv) (e := e2) (r := true) (fz := 0) (by simp [h1, hvn, hv]) (by omega)]
  simp
 have hcvl : (cv.take sz).length = sz := by simp; omega
 let c2 := splice c1 (i * sz) (cv.take sz)
 let h2 := h1.set h.next (.cells c2 el true 0)
 have ec1 : copyA sz h1 (⟨some ⟨h.next, i * sz, some (sz + 1)⟩, n + 1 - i, n + 1 - i⟩ : Slc) (min 1 (n + 1 - i)) (cv.take sz) = some h2 := by
  simp only [copyA]
  rw [show min 1 (n + 1 - i) = 1 by omega, Nat.one_mul, List.take_of_length_le (by omega)]
  exact wrL_ok (by simp [h1]) (by rw [hcvl, hc1]; omega) h1v (fun e => by rw [e] at hcvl; exact hz hcvl.symm)
 have hc2 : c2.length = (n + 1) * sz := by rw [← hc1]; exact length_splice (by rw [hcvl, hc1]; omega)
 let R := (c.drop (i * sz)).take ((n - i) * sz)
 have hR : R.length = (n - i) * sz := by simp only [R, List.length_take, List.length_drop]; omega
 have er2 : rdS sz (⟨some ⟨b, i * sz, none⟩, n - i, m - i⟩ : Slc) h2 = some R := by
  simp only [rdS]
  rw [rdL_ok (c := c) (e := el) (r := true) (fz := 0) (by simp [h2, h1, hbn, hb]) (by omega)]
 have h1R : allOne R = true := allOne_sub h1c fun v hv => by
  have e : R = (c.take (n * sz)).drop (i * sz) := by simp only [R]; rw [List.drop_take]; congr 1; omega
  rw [e] at hv
  exact List.mem_of_mem_drop hv
 have hRne : R ≠ [] := fun e => by
  rw [e] at hR
  have : 0 < (n - i) * sz := Nat.mul_pos (by omega) (by omega)
  simp at hR; omega
 have ec2 : copyA sz h2 (⟨some ⟨h.next, (i + 1) * sz, some (sz + 1)⟩, n - i, n - i⟩ : Slc) (min (n - i) (n - i)) R = some (h2.set h.next (.cells (splice c2 ((i + 1) * sz) R) el true 0)) := by
  simp only [copyA, Nat.min_self]
  rw [List.take_of_length_le (by omega)]
  exact wrL_ok (by simp [h2]) (by rw [hR, hc2]; omega) h1R hRne
 have fin : splice c2 ((i + 1) * sz) R = insC sz c cv n i := by
  have hAl : (c.take (i * sz)).length = i * sz := by rw [List.length_take]; omega
  have eR : R = (c.take (n * sz)).drop (i * sz) := by simp only [R]; rw [List.drop_take]; congr 1; omega
  unfold insC
  rw [← eR, es1]
  exact splice_ins hAl hcvl (by rw [hzl]; omega) hR
 refine ⟨h2.set h.next (.cells (splice c2 ((i + 1) * sz) R) el true 0), ?_, by simp [h2, h1], fun x => ?_⟩
 ·unfold insF
  rw [e1, Option.bind_some, if_neg (by simp), if_neg (by simp; omega)]
  simp only [capOf, Option.bind_some]
  rw [ew, if_pos (by simp; omega), e2', Option.bind_some]
  simp only [et]
  rw [if_pos (by
   refine ⟨by omega, by omega, ?_⟩
   have a1 : (n + 1 - i) * bytes ≤ (n + 1) * bytes := Nat.mul_le_mul_right _ (by omega)
   have a2 : 2 * (n + 1) * bytes = 2 * ((n + 1) * bytes) := by rw [Nat.mul_assoc]
   have a3 : ((n : Int) + 1 - i) * (bytes : Int) = (((n + 1 - i) * bytes : Nat) : Int) := by rw [Int.natCast_mul]; congr 1; omega
   rw [a3]; omega), etn, ea, Option.bind_some]
  simp only [e8, Option.bind_some, er1, ec1, hw2, e11, er2, ec2]
  rw [show i + (n + 1 - i) = n + 1 by omega]
 ·simp only [h2, h1, AHeap.get_set, AHeap.get_new]
  by_cases hx : x = h.next
  ·simp [hx, fin]
  ·simp [hx]
theorem ins_room {h : AHeap} {b vb n m i vc : Nat} {c cv : List Value} {e2 : TypeId} {spv : Option Nat} (hb : h.get b = some (.cells c el true 0)) (hv : h.get vb = some (.cells cv e2 true 0)) (hne : vb ≠ b) (hi : i < n) (hn : (n + 1) * sz ≤ c.length) (hm : n + 1 ≤ m) (hm2 : n + 1 ≤ 140737488355328)
  (hcv : sz ≤ cv.length) (hz : sz ≠ 0) (h1v : allOne (cv.take sz) = true) (h1c : allOne (c.take (n * sz)) = true) :
  ∃ h' c', insF sz bytes el Z ⟨some ⟨b, 0, none⟩, n, m⟩ i ⟨some ⟨vb, 0, spv⟩, 1, vc⟩ h = some (⟨some ⟨b, 0, none⟩, n + 1, m⟩, h') ∧ h'.next = h.next ∧ (∀ x, h'.get x = if x = b then some (.cells c' el true 0) else h.get x) ∧ c'.take ((n + 1) * sz) = insC sz c cv n i ∧ c'.length = c.length := by
 have e0 : Gx.subL sz (⟨some ⟨b, 0, none⟩, n, m⟩ : Slc) (some (i : Int)) none none = some ⟨some ⟨b, i * sz, none⟩, n - i, m - i⟩ := by
  simpa using subL_lo (sz := sz) (b := b) (o := 0) (sp := none) rfl (Nat.le_of_lt hi) (by omega) (by omega)
 have ew : IntKind.wrap .i64 ((n : Int) + ((1 : Nat) : Int)) = ((n + 1 : Nat) : Int) := by rw [wr64 (by omega)]; omega
 have hw2 : IntKind.wrap .i64 ((i : Int) + ((1 : Nat) : Int)) = ((i + 1 : Nat) : Int) := by rw [wr64 (by omega)]; omega
 have e15 : Gx.subL sz (⟨some ⟨b, 0, none⟩, n, m⟩ : Slc) none (some ((n + 1 : Nat) : Int)) none = some ⟨some ⟨b, 0, none⟩, n + 1, m⟩ := subL_hi rfl hm
 have e16 : Gx.subL sz (⟨some ⟨b, 0, none⟩, n + 1, m⟩ : Slc) (some ((i + 1 : Nat) : Int)) none none = some ⟨some ⟨b, (i + 1) * sz, none⟩, n - i, m - (i + 1)⟩ := by
  have := subL_lo (sz := sz) (b := b) (o := 0) (n := n + 1) (m := m) (lo := i + 1) (sp := none) rfl (by omega) hm (by omega)
  rw [this, show n + 1 - (i + 1) = n - i by omega, Nat.zero_add]
 have e20 : Gx.subL sz (⟨some ⟨b, 0, none⟩, n + 1, m⟩ : Slc) (some (i : Int)) none none = some ⟨some ⟨b, i * sz, none⟩, n + 1 - i, m - i⟩ := by
  simpa using subL_lo (sz := sz) (b := b) (o := 0) (n := n + 1) (m := m) (lo := i) (sp := none) rfl (by omega) hm (by omega)
 have esum : i * sz + (n + 1 - i) * sz = (n + 1) * sz := by rw [← Nat.add_mul]; congr 1; omega
 have esum2 : (i + 1) * sz + (n - i) * sz = (n + 1) * sz := by rw [← Nat.add_mul]; congr 1; omega
 have esum3 : i * sz + (n - i) * sz = n * sz := by rw [← Nat.add_mul]; congr 1; omega
 have es1 : (i + 1) * sz = i * sz + sz := by rw [Nat.add_mul]; omega
 have es2 : (n + 1) * sz = n * sz + sz := by rw [Nat.add_mul]; omega
 have hcvl : (cv.take sz).length = sz := by rw [List.length_take]; omega
 have hcne : c ≠ [] := fun e => by
  rw [e] at hn
  have : 0 < sz := by omega
  simp at hn; omega
 have hov : ovA (⟨some ⟨vb, 0, spv⟩, 1, vc⟩ : Slc) (⟨some ⟨b, (i + 1) * sz, none⟩, n - i, m - (i + 1)⟩ : Slc) h = some () := by
  unfold ovA
  simp only [hb, hv]
  rw [if_pos ⟨hne, by omega, by omega, hcne⟩]
 let R := (c.drop (i * sz)).take ((n - i) * sz)
 have hR : R.length = (n - i) * sz := by simp only [R, List.length_take, List.length_drop]; omega
 have eR : R = (c.take (n * sz)).drop (i * sz) := by simp only [R]; rw [List.drop_take]; congr 1; omega
 have h1R : allOne R = true := allOne_sub h1c fun v hv => by
  rw [eR] at hv
  exact List.mem_of_mem_drop hv
 have hRne : R ≠ [] := fun e => by
  rw [e] at hR
  have : 0 < (n - i) * sz := Nat.mul_pos (by omega) (by omega)
  simp at hR; omega
 have er20 : rdS sz (⟨some ⟨b, i * sz, none⟩, n + 1 - i, m - i⟩ : Slc) h = some ((c.drop (i * sz)).take ((n + 1 - i) * sz)) := by
  simp only [rdS]
  rw [rdL_ok hb (by omega)]
 let h1 := h.set b (.cells (splice c ((i + 1) * sz) R) el true 0)
 have hmin : min (n + 1 - i) (n - i) = n - i := by omega
 have ec1 : copyA sz h (⟨some ⟨b, (i + 1) * sz, none⟩, n - i, m - (i + 1)⟩ : Slc) (min (n + 1 - i) (n - i)) ((c.drop (i * sz)).take ((n + 1 - i) * sz)) = some h1 := by
  simp only [copyA, hmin]
  rw [List.take_take, Nat.min_eq_left (Nat.mul_le_mul_right _ (by omega))]
  exact wrL_ok hb (by rw [show ((c.drop (i * sz)).take ((n - i) * sz)).length = (n - i) * sz from hR]; omega) h1R hRne
 have hl1 : (splice c ((i + 1) * sz) R).length = c.length := length_splice (by rw [hR]; omega)
 have er25 : rdS sz (⟨some ⟨vb, 0, spv⟩, 1, vc⟩ : Slc) h1 = some (cv.take sz) := by
  simp only [rdS]
  rw [rdL_ok (c := cv) (e := e2) (r := true) (fz := 0) (by simp [h1, hne, hv]) (by omega)]
  simp
 have ec2 : copyA sz h1 (⟨some ⟨b, i * sz, none⟩, n + 1 - i, m - i⟩ : Slc) (min 1 (n + 1 - i)) (cv.take sz) = some (h1.set b (.cells (splice (splice c ((i + 1) * sz) R) (i * sz) (cv.take sz)) el true 0)) := by
  simp only [copyA]
  rw [show min 1 (n + 1 - i) = 1 by omega, Nat.one_mul, List.take_of_length_le (by omega)]
  exact wrL_ok (by simp [h1]) (by rw [hcvl, hl1]; omega) h1v (fun e => by rw [e] at hcvl; exact hz hcvl.symm)
 refine ⟨h1.set b (.cells (splice (splice c ((i + 1) * sz) R) (i * sz) (cv.take sz)) el true 0), splice (splice c ((i + 1) * sz) R) (i * sz) (cv.take sz), ?_, by simp [h1], fun x => ?_, ?_, ?_⟩
 ·unfold insF
  rw [e0, Option.bind_some, if_neg (by simp), if_neg (by simp; omega)]
  simp only [capOf, Option.bind_some]
  rw [ew, if_neg (by simp; omega), e15, Option.bind_some]
  simp only [hw2, e16, Option.bind_some, hov, e20, er20, ec1, er25, ec2]
 ·simp only [h1, AHeap.get_set]
  by_cases hx : x = b
  ·rw [if_pos hx, if_pos hx]
  ·rw [if_neg hx, if_neg hx, if_neg hx]
 ·have hl2 : (splice (splice c ((i + 1) * sz) R) (i * sz) (cv.take sz)).length = c.length := by rw [length_splice (by rw [hcvl, hl1]; omega), hl1]
  have hAl : (c.take (i * sz)).length = i * sz := by rw [List.length_take]; omega
  have el1 : (c.take (i * sz) ++ cv.take sz).length = (i + 1) * sz := by rw [List.length_append, hAl, hcvl]; omega
  unfold insC
  rw [← eR]
  apply List.ext_getElem?
  intro j
  rw [List.getElem?_take]
  by_cases j0 : j < (n + 1) * sz
  ·rw [if_pos j0, get_splice (by rw [hcvl, hl1]; omega), hcvl]
   by_cases j1 : j < i * sz
   ·rw [if_pos j1, get_splice (by rw [hR]; omega), if_pos (by omega), List.getElem?_append_left (by rw [el1]; omega), List.getElem?_append_left (by rw [hAl]; omega), List.getElem?_take, if_pos j1]
   ·rw [if_neg j1]
    by_cases j2 : j < i * sz + sz
    ·rw [if_pos j2, List.getElem?_append_left (by rw [el1]; omega), List.getElem?_append_right (by rw [hAl]; omega), hAl]
    ·rw [if_neg j2, get_splice (by rw [hR]; omega), if_neg (by omega), hR, if_pos (by omega), List.getElem?_append_right (by rw [el1]; omega), el1]
  ·rw [if_neg j0, List.getElem?_eq_none (by rw [List.length_append, el1, hR]; omega)]
 ·rw [length_splice (by rw [hcvl, hl1]; omega), hl1]
theorem AHeap.ext' {h h' : AHeap} (hn : h.next = h'.next) (hg : ∀ x, h.get x = h'.get x) : h = h' := by
 cases h; cases h'
 simp only at hn hg
 subst hn
 congr 1
 funext x
 exact hg x
def eIns (id : FuncId) (rt : Nat) (sz bytes : Nat) (el : TypeId) (F : Slc → Int → Slc → AHeap → Option (Slc × AHeap)) : Ent :=
 entOf id [(0, .l), (1, .i .i64), (2, .l)] [(rt, .l)] (insA sz bytes el F)
theorem appA_three {X : Type} {args : List Value} {F : Slc → Int → Slc → AHeap → Option X} {h : AHeap} {r : X} (e : appA [(0, .l), (1, .i .i64), (2, .l)] args F h = some r) :
  ∃ s i v, args = [.slice s.a s.len s.cap, .int .i64 i, .slice v.a v.len v.cap] ∧ F s i v h = some r := by
 match args with
 | [] => simp [appA] at e
 | [_] => simp [appA] at e
 | [_, _] => simp [appA] at e
 | [v0, v1, v2] =>
  simp only [appA, Option.bind_eq_some_iff] at e
  obtain ⟨s, h0, i, h1, v, h2, e⟩ := e
  refine ⟨s, i, v, ?_, e⟩
  rw [← LTy.enc_dec h0, ← LTy.enc_dec h1, ← LTy.enc_dec h2]
  rfl
 | _ :: _ :: _ :: _ :: _ =>
  simp only [appA, Option.bind_eq_some_iff] at e
  obtain ⟨s, h0, i, h1, v, h2, e⟩ := e
  cases e
theorem ins_ok {id : FuncId} {rt : Nat} {F : Slc → Int → Slc → AHeap → Option (Slc × AHeap)} (hF : EntOk P G (entOf id [(0, .l), (1, .i .i64), (2, .l)] [(rt, .l)] F)) (hFe : F = insF sz bytes el Z) (hZ : Z.length = sz) (hZ1 : plainL Z = true) :
  EntOk P G (eIns id rt sz bytes el F) := by
 intro R args h κ r hr
 simp only [eIns, entOf, Option.bind_eq_some_iff] at hr
 obtain ⟨⟨t, h'⟩, hA, hk⟩ := hr
 obtain ⟨s, i, v, ea, hB⟩ := appA_three hA
 clear hA
 subst ea
 have hA : insA sz bytes el F s i v h = some (t, h') := hB
 clear hB
 unfold insA at hA
 split at hA
 case h_2 =>
  refine hF R _ h κ r ?_
  show ((F s i v h).bind fun r => κ _ r.2) = some r
  rw [hA]; exact hk
 rename_i c cv b0 vb0 hok
 cases hA
 unfold insOk at hok
 split at hok
 case h_2 => cases hok
 rename_i a bd ha hbd
 split at hok
 case h_2 => cases hok
 rename_i cc e cvv e2 hget hgetv
 split at hok
 case isFalse => cases hok
 rename_i hc
 cases hok
 obtain ⟨hne, ho, hsp, hvo, hv1, hi0, hin, hlen, rfl, hcv, hz, h1v, h1c, hbig, hby, hncap⟩ := hc
 obtain ⟨sa, n, m⟩ := s
 obtain ⟨va, vn, vc⟩ := v
 simp only at ha hbd hv1 hin hlen h1c hbig hncap hk ⊢
 subst ha; subst hbd; subst hv1
 obtain ⟨b, o, sp⟩ := a
 obtain ⟨vb, vo, spv⟩ := bd
 simp only at ho hsp hvo hne hget hgetv hk ⊢
 subst ho; subst hsp; subst hvo
 obtain ⟨i, rfl⟩ := Int.eq_ofNat_of_zero_le hi0
 have hin' : i < n := by omega
 refine ⟨_, _, hk, by simp, fun μ w args' sm z hv => ?_⟩
 have zn : μ h.next = none := z h.next (Nat.le_refl _) (by simp)
 obtain ⟨x0, x1, x2, rfl, q0, q1, q2⟩ := hv.three_inv
 have := vr_int q1; subst this
 cases q0 with
 | empty _ => omega
 | slice hm hcap =>
  rename_i cb d zz m'
  obtain ⟨hmm, hmz⟩ := hcap
  obtain ⟨c', lo, hi, hO, hzz, hcc, hrw⟩ := sm.obj hget hm
  obtain ⟨rfl, hfz, hmk⟩ := hrw rfl
  simp only [Nat.zero_add] at hmz hcc q2 ⊢
  have himg := (hmk (by decide)).2
  have hex : ∀ l : List Value, (∀ x ∈ l, ∃ v, VR μ v x) → ∃ l0 : List Value, VRs μ l0 l := by
   intro l
   induction l with
   | nil => intro _; exact ⟨[], .nil μ⟩
   | cons x l ih =>
    intro hx
    obtain ⟨v, hv⟩ := hx x List.mem_cons_self
    obtain ⟨l0, h0⟩ := ih fun y hy => hx y (List.mem_cons_of_mem _ hy)
    exact ⟨v :: l0, .cons hv h0⟩
  obtain ⟨l0, hl0⟩ := hex (c'.toList.drop c.length) fun x hx => himg x (List.mem_of_mem_drop hx)
  have hle : c.length ≤ c'.size := by
   cases hcl : c.length with
   | zero => omega
   | succ k =>
    have hk1 : k < c.length := by omega
    obtain ⟨v', h1, _⟩ := hcc k _ (List.getElem?_eq_getElem hk1)
    have := (Array.getElem?_eq_some_iff.1 h1).1
    omega
  have hl0l : l0.length = c'.size - c.length := by have := hl0.1; simp at this; omega
  let cX := c ++ l0
  let hX := h.set b (.cells cX e true 0)
  have hXl : cX.length = c'.size := by simp only [cX, List.length_append]; omega
  have hcX : ∀ (j : Nat) (v : Value), cX[j]? = some v → ∃ v', c'[j]? = some v' ∧ VR μ v v' := by
   intro j v hj
   simp only [cX] at hj
   by_cases hjl : j < c.length
   ·rw [List.getElem?_append_left hjl] at hj
    exact hcc j v hj
   ·rw [List.getElem?_append_right (by omega)] at hj
    obtain ⟨v', h1, h2⟩ := hl0.get hj
    refine ⟨v', ?_, h2⟩
    rw [List.getElem?_drop, show c.length + (j - c.length) = j by omega] at h1
    simpa using h1
  have st0 : Step G μ h w μ hX w := Step.turn sm hget rfl hm hO ⟨rfl, hzz, fun j v hj => by simpa using hcX j v hj, fun _ => ⟨rfl, hfz, hmk⟩⟩ rfl rfl rfl rfl (fun _ _ => rfl)
  have hbl : b < h.next := sm.lt _ _ hget
  have hvl : vb < h.next := sm.lt _ _ hgetv
  have hgX : hX.get b = some (.cells cX e true 0) := by simp [hX]
  have hgvX : hX.get vb = some (.cells cv e2 true 0) := by simp [hX, Ne.symm hne, hgetv]
  have etk : cX.take (n * sz) = c.take (n * sz) := by simp only [cX]; rw [List.take_append_of_le_length hlen]
  have hisz : i * sz ≤ n * sz := Nat.mul_le_mul_right _ (by omega)
  have eins : insC sz cX cv n i = insC sz c cv n i := by
   unfold insC
   rw [etk, show cX.take (i * sz) = c.take (i * sz) by simp only [cX]; rw [List.take_append_of_le_length (by omega)]]
  have hargs2 : VRs μ [.slice (some ⟨b, 0, none⟩) n m', .int .i64 (i : Int), .slice (some ⟨vb, 0, spv⟩) 1 vc] [.slice (some ⟨cb, 0, none⟩) n m', .int .i64 (i : Int), x2] := by
   refine .cons ?_ (.cons (.int _ _) (.cons q2 (.nil μ)))
   have := VR.slice (μ := μ) (b := b) (o := 0) (sp := none) (n := n) (m := m') (m' := m') hm rfl
   simpa using this
  have hnm' : n ≤ m' := by omega
  have key : ∀ (t2 : Slc) (h2 : AHeap), insF sz bytes e Z ⟨some ⟨b, 0, none⟩, n, m'⟩ (i : Int) ⟨some ⟨vb, 0, spv⟩, 1, vc⟩ hX = some (t2, h2) →
    FnS P G id [.slice (some ⟨b, 0, none⟩) n m', .int .i64 (i : Int), .slice (some ⟨vb, 0, spv⟩) 1 vc] hX (.slice t2.a t2.len t2.cap) h2 := by
   intro t2 h2 e0
   obtain ⟨v, h3, hk2, hFn⟩ := hF (Value × AHeap) [.slice (some ⟨b, 0, none⟩) n m', .int .i64 (i : Int), .slice (some ⟨vb, 0, spv⟩) 1 vc] hX (fun v h => some (v, h)) (.slice t2.a t2.len t2.cap, h2) (by
    show ((F ⟨some ⟨b, 0, none⟩, n, m'⟩ (i : Int) ⟨some ⟨vb, 0, spv⟩, 1, vc⟩ hX).bind fun r => some (_, r.2)) = _
    rw [hFe, e0]; rfl)
   cases hk2
   exact hFn
  by_cases hroom : n + 1 ≤ m'
  ·have hmul : (n + 1) * sz ≤ m' * sz := Nat.mul_le_mul_right _ hroom
   have hsmall : n + 1 ≤ 140737488355328 := by
    have : n + 1 ≤ (n + 1) * bytes := Nat.le_mul_of_pos_right _ hby
    have : 2 * (n + 1) * bytes = 2 * ((n + 1) * bytes) := by rw [Nat.mul_assoc]
    omega
   obtain ⟨h3, c3, e3, n3, g3, t3, l3⟩ := ins_room (Z := Z) (bytes := bytes) (vc := vc) (spv := spv) hgX hgvX (Ne.symm hne) hin' (by omega) hroom hsmall hcv hz h1v (by rw [etk]; exact h1c)
   have hFn := key _ _ e3
   intro ox ax next Q hnext
   refine hFn.2 μ w _ st0.sim (fun x hx hx2 => absurd hx2 (by rw [n3]; omega)) hargs2 ox ax next Q ?_
   rintro v' w' ⟨μ', hv', st1⟩
   have eμ : μ' = μ := funext fun x => st1.same x (by rw [n3]; omega)
   subst eμ
   have hg3 : h3.get b = some (.cells c3 e true 0) := by rw [g3, if_pos rfl]
   obtain ⟨c4, lo4, hi4, hO4, hz4, hcc4, hrw4⟩ := st1.sim.obj hg3 hm
   obtain ⟨_, hfz4, hmk4⟩ := hrw4 rfl
   have hn3 : h3.next = h.next := by rw [n3]; simp [hX]
   have st2 := Step.over (d' := 0) st1.sim (by rw [hn3]; exact zn) hg3 rfl hm hO4 (B' := .cells (insC sz c cv n i) e true 0) (by
    refine ⟨rfl, hz4, fun j v hj => ?_, fun _ => ⟨rfl, hfz4, fun mm => ⟨(hmk4 mm).1, fun x hx => let ⟨v, q⟩ := (hmk4 mm).2 x hx; ⟨v, q.mono (BMap.put_le (by rw [hn3]; exact zn))⟩⟩⟩⟩
    rw [← eins, ← t3, List.getElem?_take] at hj
    split at hj
    ·obtain ⟨v', p1, p2⟩ := hcc4 j v hj
     exact ⟨v', by simpa using p1, p2.mono (BMap.put_le (by rw [hn3]; exact zn))⟩
    ·cases hj) rfl rfl rfl rfl (fun _ _ => rfl)
   have hfin : (h3.kill b).new (.cells (insC sz c cv n i) e true 0) = (h.kill b).new (.cells (insC sz c cv n i) e true 0) := by
    apply AHeap.ext'
    ·simp [hn3]
    ·intro x
     simp only [AHeap.get_new, AHeap.get_kill, AHeap.next_kill, hn3, g3]
     by_cases hx : x = h.next
     ·simp [hx]
     ·by_cases hx2 : x = b
      ·simp [hx2]
      ·simp [hx, hx2, hX]
   rw [hfin] at st2
   refine hnext v' w' ⟨_, ?_, (st0.trans st1).trans st2⟩
   cases hv' with
   | slice hm' hcap' =>
    rename_i cb' d' z' m''
    rw [hm] at hm'; cases hm'
    have : m'' = m' := hcap'
    subst this
    have := VR.slice (μ := μ'.put h3.next (cb, 0, zz)) (b := h.next) (o := 0) (c := cb) (d := 0) (z := zz) (n := n + 1) (m := n + 1) (m' := m'') (sp := some (sz + 1)) (by simp [BMap.put, hn3]) ⟨hroom, by omega⟩
    show VR _ (.slice (some ⟨h.next, 0, some (sz + 1)⟩) (n + 1) (n + 1)) _
    simpa using this
  ·obtain ⟨h3, e3, n3, g3⟩ := ins_grow (Z := Z) (bytes := bytes) (vc := vc) (spv := spv) hgX hgvX hin' (by rw [hXl]; omega) (m := m') (by omega) hnm' hcv hz hZ hZ1 h1v (by rw [etk]; exact h1c) hbig hby (by simpa [hX] using hbl) (by simpa [hX] using hvl)
   have hnX : hX.next = h.next := by simp [hX]
   have hFn := key _ _ e3
   intro ox ax next Q hnext
   refine hFn.2 μ w _ st0.sim (fun x hx hx2 => z x (by rw [hnX] at hx; exact hx) (by rw [n3, hnX] at hx2; simpa using hx2)) hargs2 ox ax next Q ?_
   rintro v' w' ⟨μ', hv', st1⟩
   have st2 := Step.kill st1.sim b
   have hfin : h3.kill b = (h.kill b).new (.cells (insC sz c cv n i) e true 0) := by
    apply AHeap.ext'
    ·simp [n3, hX]
    ·intro x
     simp only [AHeap.get_new, AHeap.get_kill, AHeap.next_kill, g3, hnX, eins]
     by_cases hx : x = h.next
     ·have : x ≠ b := by omega
      simp [hx]
      omega
     ·by_cases hx2 : x = b
      ·simp [hx2]
       omega
      ·simp [hx, hx2, hX]
   rw [hfin] at st2
   rw [hnX] at hv'
   exact hnext v' w' ⟨_, hv', (st0.trans st1).trans st2⟩
end
end Gx
namespace Gx
open Go Go.RowKit
section
variable {G : Nat} {P : Program}
theorem FnS.calls {fn : Func} {g : FuncId} {args : List Value} {h h' : AHeap} {v : Value} (hF : FnS P G g args h v h') (hf : P.funcs[g]? = some fn) (hb : fn.body.isSome = true) (hname : (fn.name == "runtime.NumGoroutine") = false)
  {μ : BMap} {w : World} {args' : List Value} (s : Sim G μ h w) (z : Zed μ h.next h'.next) (hv : VRs μ args args') :
  Calls P g ⟨args'⟩ w fun e w' => ∃ v' μ', e = .returned v' ∧ VR μ' v v' ∧ Step G μ h w μ' h' w' := by
 have hcall : (callFunc g ⟨args'⟩).run P w = .ok (.enter g ⟨args'⟩) w := by
  have hne : ¬ fn.name = "runtime.NumGoroutine" := by simpa using hname
  obtain ⟨c, hc⟩ := Option.isSome_iff_exists.1 hb
  simp [callFunc, hf, hne, hc]
 have := hF.2 μ w args' s z hv ⟨some 0, .move (.tmp 0), 0, "", #[], none⟩ { tmps := #[undef], defers := [] }
  (fun a' w' => ∃ v' μ', a'.tmps = #[v'] ∧ VR μ' v v' ∧ Step G μ h w μ' h' w') (fun _ _ _ => False) (fun v' w' ⟨μ', h1, h2⟩ => ⟨v', μ', by simp [Act.put], h1, h2⟩)
 rw [hcall, Oper.upon_enter] at this
 refine Calls.mono this fun e w' he => ?_
 cases e with
 | returned u =>
  obtain ⟨v', μ', e, h1, h2⟩ := he
  simp [Act.put] at e
  subst e
  exact ⟨_, μ', rfl, h1, h2⟩
 | panicked ch => exact he.elim
 | outgrown => obtain ⟨_, _, hh⟩ := he; exact hh.elim
theorem Step.below {μ μ' : BMap} {h h' : AHeap} {w w' : World} (st : Step G μ h w μ' h' w') (hro : ∀ b B, h.get b = some B → B.isRW = false) : Below w.heap.size w w' :=
 ⟨st.os, st.tape, st.output, st.size, fun k hk => st.old k hk fun b B p hb hrw => by rw [hro b B hb] at hrw; cases hrw⟩
def h0 : AHeap := ⟨0, fun _ => none⟩
theorem sim0 (w : World) : Sim 0 (fun _ => none) h0 w :=
 ⟨(fun _ _ h => nomatch h), (fun _ _ _ _ _ _ h => nomatch h), (fun _ _ h => nomatch h), (fun g h => absurd h (Nat.not_lt_zero g)), Nat.le_refl _⟩
theorem law_calls {fn : Func} {g : FuncId} {e : Ent} (he : EntOk P G e) (hg : e.id = g) (hf : P.funcs[g]? = some fn) (hb : fn.body.isSome = true) (hname : (fn.name == "runtime.NumGoroutine") = false) {args : List Value} {h : AHeap}
  (hrun : e.run Bool args h (fun v _ => match v with | .bool b => some b | _ => none) = some true) {μ : BMap} {w : World} {args' : List Value} (s : Sim G μ h w) (z : ∀ b, h.next ≤ b → μ b = none) (hv : VRs μ args args') (hro : ∀ b B, h.get b = some B → B.isRW = false) :
  Calls P g ⟨args'⟩ w fun e w' => e = .returned (.bool true) ∧ Below w.heap.size w w' := by
 obtain ⟨v, h', hk, hF⟩ := he Bool args h _ true hrun
 subst hg
 refine Calls.mono (hF.calls hf hb hname s (fun b hb _ => z b hb) hv) ?_
 rintro e w' ⟨v', μ', rfl, h1, h2⟩
 refine ⟨?_, h2.below hro⟩
 split at hk
 ·cases hk; rw [vr_bool h1]
 ·cases hk
end
end Gx
namespace Gx
open Go Go.RowKit Go.ChangeShapes Go.WideShapes
structure Start (w : World) (μ : BMap) (h : AHeap) (G : Nat := 0) : Prop where
 sim : Sim G μ h w
 z : ∀ b, h.next ≤ b → μ b = none
 ro : ∀ b B, h.get b = some B → B.isRW = false
theorem Start.zero (w : World) : Start w (fun _ => none) h0 := ⟨sim0 w, fun _ _ => rfl, fun b B hb => by cases hb⟩
theorem put_self (μ : BMap) (b : Nat) (p : Nat × Nat × Nat) : (μ.put b p) b = some p := by simp [BMap.put]
theorem Start.add {G : Nat} {w : World} {μ : BMap} {h : AHeap} (S : Start w μ h G) {c d : Nat} {arr : Array Value} {e : TypeId} {fz : Nat × Nat} (hO : w.heap[c]? = some (.cells arr e fz)) {cs : List Value}
  (hc : ∀ (i : Nat) v, cs[i]? = some v → ∃ v', arr[d + i]? = some v' ∧ VR μ v v') : Start w (μ.put h.next (c, d, arr.size)) (h.new (.cells cs e false 0)) G := by
 have le := BMap.put_le (p := (c, d, arr.size)) (S.z h.next (Nat.le_refl _))
 refine ⟨⟨fun b B hb => ?_, fun b₁ b₂ B₁ B₂ p₁ p₂ h1 h2 _ hr _ _ => ?_, fun b B hb => ?_, fun g hg => let ⟨z, hz⟩ := S.sim.glob g hg; ⟨z, le _ _ hz⟩, Nat.le_trans S.sim.gle (by simp)⟩, fun b hb => ?_, fun b B hb => ?_⟩
 ·rw [AHeap.get_new] at hb
  split at hb
  ·rename_i e'; subst e'; cases hb
   exact ⟨c, d, arr.size, _, put_self _ _ _, hO, rfl, rfl, fun i v hv => let ⟨v', h1, h2⟩ := hc i v hv; ⟨v', h1, h2.mono le⟩, fun hf => by cases hf⟩
  ·obtain ⟨c', d', z', O', hm, hO', hr⟩ := S.sim.blk b B hb
   exact ⟨c', d', z', O', le _ _ hm, hO', hr.mono le⟩
 ·rw [AHeap.get_new] at h1
  split at h1
  ·cases h1; cases hr
  ·rw [S.ro b₁ B₁ h1] at hr; cases hr
 ·rw [AHeap.get_new] at hb
  split at hb
  ·rename_i e'; subst e'; simp
  ·have := S.sim.lt b B hb; simp; omega
 ·simp only [AHeap.next_new] at hb
  have : b ≠ h.next := by omega
  simp only [BMap.put, this, if_false]
  exact S.z b (by omega)
 ·rw [AHeap.get_new] at hb
  split at hb
  ·cases hb; rfl
  ·exact S.ro b B hb
def AHeap.hole (h : AHeap) : AHeap := ⟨h.next + 1, h.get⟩
theorem Start.hole {G : Nat} {w : World} {μ : BMap} {h : AHeap} (S : Start w μ h G) (p : Nat × Nat × Nat) : Start w (μ.put h.next p) h.hole G := by
 have le := BMap.put_le (p := p) (S.z h.next (Nat.le_refl _))
 refine ⟨⟨fun b B hb => ?_, fun b₁ b₂ B₁ B₂ p₁ p₂ h1 h2 _ hr _ _ => ?_, fun b B hb => ?_, fun g hg => let ⟨z, hz⟩ := S.sim.glob g hg; ⟨z, le _ _ hz⟩, Nat.le_trans S.sim.gle (Nat.le_succ _)⟩, fun b hb => ?_, fun b B hb => S.ro b B hb⟩
 ·obtain ⟨c', d', z', O', hm, hO', hr⟩ := S.sim.blk b B hb
  exact ⟨c', d', z', O', le _ _ hm, hO', hr.mono le⟩
 ·rw [S.ro b₁ B₁ h1] at hr; cases hr
 ·have := S.sim.lt b B hb
  show b < h.next + 1
  omega
 ·have hb : h.next + 1 ≤ b := hb
  have : b ≠ h.next := by omega
  simp only [BMap.put, this, if_false]
  exact S.z b (by omega)
theorem Keeps.hole (h : AHeap) : Keeps h h.hole := ⟨Nat.le_succ _, fun _ _ _ => rfl⟩
structure More (w : World) (μ : BMap) (h : AHeap) (μ' : BMap) (h' : AHeap) (G : Nat := 0) : Prop where
 st : Start w μ' h' G
 le : BLe μ μ'
 kp : Keeps h h'
theorem Start.row {G : Nat} {α : Type} {enc : α → Value} (pl : ∀ x, plainV (enc x) = true) {w : World} {μ : BMap} {h : AHeap} (S : Start w μ h G) {a : Addr} {len cap : Nat} {zs : List α} (hz : zs.length = cap) (hl : len ≤ cap)
  (hc : ∀ (i : Nat) x, zs[i]? = some x → w.cell? (a.add i) = some (enc x)) :
  ∃ μ' h' s, More w μ h μ' h' G ∧ VR μ' (.slice s.a s.len s.cap) (.slice (some a) len cap) ∧ Row enc h' s (zs.take len) ∧ ∀ b, s.a = some b → b.block < h'.next ∧ h.next ≤ b.block := by
 by_cases h0 : cap = 0
 ·obtain rfl : len = 0 := by omega
  have hzn : zs = [] := List.length_eq_zero_iff.1 (hz.trans h0)
  refine ⟨_, h.hole, ⟨some ⟨h.next, 0, none⟩, 0, 0⟩, ⟨S.hole (0, 0, 0), BMap.put_le (S.z _ (Nat.le_refl _)), .hole h⟩, ?_, ?_, ?_⟩
  ·subst h0; exact .empty fun _ => rfl
  ·rw [hzn]; exact Row.nil _ _ _ _
  ·intro b hb; cases hb; exact ⟨Nat.lt_succ_self _, Nat.le_refl _⟩
 ·obtain ⟨x0, hx0⟩ := isome (l := zs) (i := 0) (by omega)
  have c0 := hc 0 x0 hx0
  obtain ⟨b, off, sp⟩ := a
  have hsp : sp = none := by simpa [Addr.add] using World.cell?_spot c0
  subst hsp
  have cell : ∀ (i : Nat) x, zs[i]? = some x → w.cell? ⟨b, off + i, none⟩ = some (enc x) := fun i x hx => by rw [← add_plain]; exact hc i x hx
  obtain ⟨arr, e, fz, hO⟩ : ∃ arr e fz, w.heap[b]? = some (.cells arr e fz) := by
   have := cell 0 x0 hx0
   unfold World.cell? at this
   split at this
   ·rename_i c e fz hh; exact ⟨c, e, fz, hh⟩
   ·cases this
  have arrs : ∀ (i : Nat) x, zs[i]? = some x → arr[off + i]? = some (enc x) := fun i x hx => by
   have := cell i x hx
   unfold World.cell? at this
   rw [hO] at this
   simpa using this
  have A := S.add (d := off) (cs := zs.map enc) hO (fun i v hv => by
   rw [List.getElem?_map] at hv
   cases hx : zs[i]? with
   | none => rw [hx] at hv; cases hv
   | some x => rw [hx] at hv; cases hv; exact ⟨_, arrs i x hx, .of_plain (pl x)⟩)
  refine ⟨_, _, ⟨some ⟨h.next, 0, none⟩, len, cap⟩, ⟨A, BMap.put_le (S.z _ (Nat.le_refl _)), Keeps.new h _⟩, ?_, ?_, ?_⟩
  ·exact .slice (put_self _ _ _) rfl
  ·have := Row.of_block (enc := enc) (h := h.new (.cells (zs.map enc) e false 0)) (xs := zs.take len) (b := h.next) (o := 0) (sp := none) (cap := cap) (c := zs.map enc) (e := e) (r := false) (fz := 0) (by simp) (by simp) (fun i x hx => by
    rw [Nat.zero_add, List.getElem?_map]
    rw [List.getElem?_take] at hx
    split at hx
    ·rw [hx]; rfl
    ·cases hx)
   rw [List.length_take, hz, Nat.min_eq_left hl] at this
   exact this
  ·intro b hb; cases hb; simp
section
variable {H : Type} {enc : TypeId × Value → H} {P : Program} {w : World} {r : Reach} {base : Nat} {t e : TypeId} {v : Value} {d : DataW H} {ps : List MemPlace} {μ : BMap} {h : AHeap}
theorem Start.textsT {G : Nat} (S : Start w μ h G) (ht : P.underlying t = some (.slice e)) (he : P.underlying e = some .string) (hc : P.cellsOf e = 1) {fuel : Nat} {x : DataW H × List MemPlace} (hf : DataW.trod enc P w 0 (fun _ => true) true fuel t [v] = some x) :
  ∃ μ' h' s, ∃ ls : List ByteArray, More w μ h μ' h' G ∧ VR μ' (.slice s.a s.len s.cap) v ∧ Row encS h' s ls ∧ (∀ b, s.a = some b → b.block < h'.next ∧ h.next ≤ b.block) ∧ (ls = [] ∨ ∃ sp, x.1 = .slice (strs ls) sp) := by
 rcases open_strings ht he hc hf with ⟨hcs, hx⟩ | ⟨a, len', cap', ss, hcs, _, hl, hm, hz, hx, hcell, hsz⟩
 ·simp at hcs
  subst hcs
  exact ⟨μ, h, ⟨none, 0, 0⟩, [], ⟨S, .refl _, .refl _ _⟩, .nilSlice, Row.nil _ _ _ _, by simp, .inl rfl⟩
 ·simp at hcs
  subst hcs
  simp only [if_true] at hz
  obtain ⟨μ', h', s, m, vr, R, bb⟩ := S.row (enc := encS) (fun _ => rfl) hz hl (fun i x hx => by
   have := hcell i (List.getElem?_eq_some_iff.1 hx).1
   rw [this, List.getD_eq_getElem?_getD, hx]; rfl)
  exact ⟨μ', h', s, _, m, vr, R, bb, .inr ⟨_, (congrArg Prod.fst hx)⟩⟩
theorem Start.texts {G : Nat} (S : Start w μ h G) (ht : P.underlying t = some (.slice e)) (he : P.underlying e = some .string) (hc : P.cellsOf e = 1) (hval : Value.okWide P w r base t v) (hd : DataW.Trod enc P w 0 (fun _ => true) true t v d ps) :
  ∃ μ' h' s, ∃ ls : List ByteArray, More w μ h μ' h' G ∧ VR μ' (.slice s.a s.len s.cap) v ∧ Row encS h' s ls ∧ (∀ b, s.a = some b → b.block < h'.next ∧ h.next ≤ b.block) ∧ (ls = [] ∨ ∃ sp, d = .slice (strs ls) sp) := by
 obtain ⟨a0, len, cap, rfl⟩ := okWide_slice ht hval
 obtain ⟨fuel, hf⟩ := hd
 exact S.textsT ht he hc (by simpa [Value.cells] using hf)
theorem trodAll_after (hl : laidOutB P = true) {W' : World} (hb : Below w.heap.size w W') : ∀ {ts : List TypeId} {vs : List Value} {ds : List (DataW H)} {ps : List MemPlace}, (∀ t ∈ ts, P.readableRec t = true ∧ t < P.types.size) →
  DataW.TrodAll enc P w 0 (fun _ => true) true ts vs ds ps → DataW.TrodAll enc P W' 0 (fun b => decide (b < w.heap.size)) true ts vs ds ps
 | [], [], [], ps, _, h => h
 | t :: ts, v :: vs, d :: ds, ps, hr, h => by
  have hlt := DataW.TrodAll.lt h
  obtain ⟨p, q, h1, h2, rfl⟩ := h
  exact ⟨p, q, Below.trod hl (hr t (by simp)).1 (hr t (by simp)).2 h1 hb (fun x hx => hlt x (by simp [hx])), trodAll_after hl hb (fun t ht => hr t (by simp [ht])) h2, rfl⟩
 | [], [], _ :: _, _, _, h => nomatch h
 | [], _ :: _, [], _, _, h => nomatch h
 | [], _ :: _, _ :: _, _, _, h => nomatch h
 | _ :: _, [], [], _, _, h => nomatch h
 | _ :: _, [], _ :: _, _, _, h => nomatch h
 | _ :: _, _ :: _, [], _, _, h => nomatch h
end
end Gx
namespace Gx
open Go Go.RowKit Go.ChangeShapes Go.WideShapes
inductive DT where
 | int (k : IntKind) | bool | str | unit
 | pair (a b : DT)
 | list (t : DT)
def DT.w : DT → Nat
 | .int _ => 1
 | .bool => 1
 | .str => 1
 | .unit => 0
 | .pair a b => a.w + b.w
 | .list _ => 1
abbrev DT.V : DT → Type
 | .int _ => Int
 | .bool => Bool
 | .str => ByteArray
 | .unit => Unit
 | .pair a b => a.V × b.V
 | .list t => List t.V
def Rep (h : AHeap) : (t : DT) → t.V → List Value → Prop
 | .int k, x, cs => cs = [.int k x] ∧ (Lit.int k x).wf = true
 | .bool, x, cs => cs = [.bool x]
 | .str, x, cs => cs = [.string x] ∧ x.size ≤ 9223372036854775807
 | .unit, _, cs => cs = []
 | .pair a b, x, cs => ∃ c1 c2, cs = c1 ++ c2 ∧ Rep h a x.1 c1 ∧ Rep h b x.2 c2
 | .list t, xs, cs => ∃ sl : Slc, cs = [.slice sl.a sl.len sl.cap] ∧ sl.len = xs.length ∧ (∀ a, sl.a = some a → a.block < h.next) ∧
   ∀ (i : Nat) (x : t.V), xs[i]? = some x → ∃ a c e r fz cx, sl.a = some a ∧ h.get a.block = some (.cells c e r fz) ∧ cx.length = t.w ∧ (∀ (j : Nat) (v : Value), cx[j]? = some v → c[a.off + i * t.w + j]? = some v) ∧ Rep h t x cx
theorem Rep.len {h : AHeap} : ∀ {t : DT} {x : t.V} {cs : List Value}, Rep h t x cs → cs.length = t.w
 | .int _, _, _, e => by rw [show _ = _ from e.1]; rfl
 | .bool, _, _, e => by rw [show _ = _ from e]; rfl
 | .str, _, _, e => by rw [show _ = _ from e.1]; rfl
 | .unit, _, _, e => by rw [show _ = _ from e]; rfl
 | .pair a b, _, _, ⟨c1, c2, e, h1, h2⟩ => by rw [e, List.length_append, Rep.len h1, Rep.len h2]; rfl
 | .list t, _, _, ⟨sl, e, _⟩ => by rw [e]; rfl
theorem Rep.keeps {h h' : AHeap} (k : Keeps h h') : ∀ {t : DT} {x : t.V} {cs : List Value}, Rep h t x cs → Rep h' t x cs
 | .int _, _, _, e => e
 | .bool, _, _, e => e
 | .str, _, _, e => e
 | .unit, _, _, e => e
 | .pair _ _, _, _, ⟨c1, c2, e, h1, h2⟩ => ⟨c1, c2, e, h1.keeps k, h2.keeps k⟩
 | .list _, _, _, ⟨sl, e, hl, hb, hx⟩ => ⟨sl, e, hl, fun a ha => Nat.lt_of_lt_of_le (hb a ha) k.nx, fun i x hi => by
   obtain ⟨a, c, ee, r, fz, cx, h1, h2, h3, h4, h5⟩ := hx i x hi
   exact ⟨a, c, ee, r, fz, cx, h1, (k.oth _ (hb a h1) fun f => f).trans h2, h3, h4, h5.keeps k⟩⟩
def shFs (P : Program) (g : TypeId → Option DT) : Nat → List Field → Option DT
 | _, [] => some .unit
 | off, f :: fs => if f.offset = off then (match g f.type with
   | some t => if P.cellsOf f.type = t.w then (match shFs P g (off + t.w) fs with
    | some r => some (.pair t r)
    | none => none) else none
   | none => none) else none
def repT (t : DT) : Nat → DT
 | 0 => .unit
 | n + 1 => .pair t (repT t n)
theorem repT_w (t : DT) : ∀ n, (repT t n).w = n * t.w
 | 0 => by simp [repT, DT.w]
 | n + 1 => by rw [repT, DT.w, repT_w t n, Nat.succ_mul, Nat.add_comm]
def shapeOf (P : Program) : Nat → TypeId → Option DT
 | 0, _ => none
 | d + 1, t => match P.underlying t with
  | some (.int k) => some (.int k)
  | some .bool => some .bool
  | some .string => some .str
  | some (.struct fs) => (match shFs P (shapeOf P d) 0 fs.toList with
    | some r => if P.cellsOf t = r.w then some r else none
    | none => none)
  | some (.array n e) => (match shapeOf P d e with
    | some r => if P.cellsOf e = r.w ∧ P.cellsOf t = n * r.w then some (repT r n) else none
    | none => none)
  | some (.slice e) => (match shapeOf P d e with
    | some r => if P.cellsOf e = r.w ∧ 0 < r.w then some (.list r) else none
    | none => none)
  | _ => none
section
variable {H : Type} {enc : TypeId × Value → H} {P : Program} {w : World} {G : Nat}
theorem More.refl {μ : BMap} {h : AHeap} (S : Start w μ h G) : More w μ h μ h G := ⟨S, .refl _, .refl _ _⟩
theorem More.trans {μ μ1 μ2 : BMap} {h h1 h2 : AHeap} (a : More w μ h μ1 h1 G) (b : More w μ1 h1 μ2 h2 G) : More w μ h μ2 h2 G := ⟨b.st, a.le.trans b.le, a.kp.trans b.kp⟩
def Opened (w : World) (G : Nat) (μ : BMap) (h : AHeap) (T : DT) (cs' : List Value) : Prop :=
 ∃ μ' h' v cs, More w μ h μ' h' G ∧ VRs μ' cs cs' ∧ Rep h' T v cs
def OpenAt (enc : TypeId × Value → H) (P : Program) (w : World) (G d : Nat) : Prop :=
 ∀ (t : TypeId) (T : DT), shapeOf P d t = some T → ∀ (μ : BMap) (h : AHeap), Start w μ h G → ∀ (n : Nat) (cs' : List Value) (x : DataW H × List MemPlace), DataW.trod enc P w 0 (fun _ => true) true n t cs' = some x → Opened w G μ h T cs'
theorem Opened.pair {μ : BMap} {h : AHeap} {a b : DT} {l : List Value} {off : Nat} (o1 : Opened w G μ h a ((l.drop off).take a.w))
  (o2 : ∀ μ' h', More w μ h μ' h' G → Opened w G μ' h' b ((l.drop (off + a.w)).take b.w)) : Opened w G μ h (.pair a b) ((l.drop off).take (a.w + b.w)) := by
 obtain ⟨μ1, h1, v1, c1, m1, r1, p1⟩ := o1
 obtain ⟨μ2, h2, v2, c2, m2, r2, p2⟩ := o2 μ1 h1 m1
 refine ⟨μ2, h2, (v1, v2), c1 ++ c2, m1.trans m2, ?_, c1, c2, rfl, p1.keeps m2.kp, p2⟩
 rw [List.take_add, List.drop_drop]
 exact (r1.mono m2.le).append r2
theorem open_fields {d : Nat} (ih : OpenAt enc P w G d) {n : Nat} {l : List Value} : ∀ (fs : List Field) (off : Nat) (T : DT), shFs P (shapeOf P d) off fs = some T →
  (∀ (i : Nat) f, fs[i]? = some f → ∃ x, DataW.trod enc P w 0 (fun _ => true) true n f.type ((l.drop f.offset).take (P.cellsOf f.type)) = some x) → ∀ (μ : BMap) (h : AHeap), Start w μ h G → Opened w G μ h T ((l.drop off).take T.w)
 | [], off, T, hs, _, μ, h, S => by
  simp only [shFs, Option.some.injEq] at hs; subst hs
  exact ⟨μ, h, (), [], .refl S, by simp [DT.w]; exact .nil _, rfl⟩
 | f :: fs, off, T, hs, hx, μ, h, S => by
  simp only [shFs] at hs
  split at hs
  ·rename_i ho
   split at hs
   ·rename_i t ht
    split at hs
    ·rename_i hw
     split at hs
     ·rename_i r hr
      cases hs
      obtain ⟨x, q⟩ := hx 0 f rfl
      rw [ho, hw] at q
      exact .pair (ih _ _ ht μ h S _ _ _ q) fun μ' h' m => open_fields ih fs _ r hr (fun i f' hi => hx (i + 1) f' (by simpa using hi)) μ' h' m.st
     ·cases hs
    ·cases hs
   ·cases hs
  ·cases hs
theorem open_items {d : Nat} (ih : OpenAt enc P w G d) {e : TypeId} {t : DT} (he : shapeOf P d e = some t) {n : Nat} {l : List Value} : ∀ (m k : Nat),
  (∀ i, i < m → ∃ x, DataW.trod enc P w 0 (fun _ => true) true n e ((l.drop ((k + i) * t.w)).take t.w) = some x) → ∀ (μ : BMap) (h : AHeap), Start w μ h G → Opened w G μ h (repT t m) ((l.drop (k * t.w)).take (repT t m).w)
 | 0, k, _, μ, h, S => ⟨μ, h, (), [], .refl S, by simp [repT, DT.w]; exact .nil _, rfl⟩
 | m + 1, k, hx, μ, h, S => by
  obtain ⟨x, q⟩ := hx 0 (by omega)
  rw [Nat.add_zero] at q
  refine .pair (ih _ _ he μ h S _ _ _ q) fun μ' h' mm => ?_
  rw [← Nat.succ_mul]
  exact open_items ih he m (k + 1) (fun i hi => by
   obtain ⟨x, q⟩ := hx (i + 1) (by omega)
   exact ⟨x, by rw [show k + 1 + i = k + (i + 1) by omega]; exact q⟩) μ' h' mm.st
theorem open_seq {T : DT} {ci : Nat → List Value} : ∀ (m : Nat), (∀ i, i < m → ∀ (μ : BMap) (h : AHeap), Start w μ h G → Opened w G μ h T (ci i)) → ∀ (μ : BMap) (h : AHeap), Start w μ h G →
  ∃ μ' h', ∃ (vs : List T.V) (cc : List (List Value)), More w μ h μ' h' G ∧ vs.length = m ∧ cc.length = m ∧ ∀ i, i < m → ∃ v c, vs[i]? = some v ∧ cc[i]? = some c ∧ VRs μ' c (ci i) ∧ Rep h' T v c
 | 0, _, μ, h, S => ⟨μ, h, [], [], .refl S, rfl, rfl, fun i hi => by omega⟩
 | m + 1, hx, μ, h, S => by
  obtain ⟨μ1, h1, vs, cc, m1, l1, l2, a1⟩ := open_seq m (fun i hi => hx i (by omega)) μ h S
  obtain ⟨μ2, h2, v, c, m2, r2, p2⟩ := hx m (by omega) μ1 h1 m1.st
  refine ⟨μ2, h2, vs ++ [v], cc ++ [c], m1.trans m2, by simp [l1], by simp [l2], fun i hi => ?_⟩
  by_cases hm : i < m
  ·obtain ⟨v', c', q1, q2, q3, q4⟩ := a1 i hm
   exact ⟨v', c', by rw [List.getElem?_append_left (by omega)]; exact q1, by rw [List.getElem?_append_left (by omega)]; exact q2, q3.mono m2.le, q4.keeps m2.kp⟩
  ·obtain rfl : i = m := by omega
   exact ⟨v, c, by rw [← l1]; simp, by rw [← l2]; simp, r2, p2⟩
theorem flatten_at {W : Nat} : ∀ {cc : List (List Value)}, (∀ c ∈ cc, c.length = W) → ∀ {i : Nat} {c : List Value}, cc[i]? = some c → ∀ (j : Nat) (v : Value), c[j]? = some v → cc.flatten[i * W + j]? = some v
 | [], _, i, c, h, _, _, _ => by simp at h
 | x :: cc, hw, 0, c, h, j, v, hv => by
  simp at h; subst h
  have hj : j < x.length := (List.getElem?_eq_some_iff.1 hv).1
  rw [List.flatten_cons, Nat.zero_mul, Nat.zero_add, List.getElem?_append_left hj]; exact hv
 | x :: cc, hw, i + 1, c, h, j, v, hv => by
  have := flatten_at (fun c hc => hw c (List.mem_cons_of_mem _ hc)) (cc := cc) (i := i) (c := c) (by simpa using h) j v hv
  have hx := hw x (List.mem_cons_self ..)
  rw [List.flatten_cons, List.getElem?_append_right (by rw [hx, Nat.succ_mul]; omega), hx, show (i + 1) * W + j - W = i * W + j by rw [Nat.succ_mul]; omega]
  exact this
theorem flatten_from {W : Nat} : ∀ {cc : List (List Value)}, (∀ c ∈ cc, c.length = W) → ∀ {k : Nat} {v : Value}, cc.flatten[k]? = some v → ∃ i j c, cc[i]? = some c ∧ c[j]? = some v ∧ k = i * W + j
 | [], _, k, v, h => by simp at h
 | x :: cc, hw, k, v, h => by
  have hx := hw x (List.mem_cons_self ..)
  rw [List.flatten_cons] at h
  by_cases hk : k < x.length
  ·rw [List.getElem?_append_left hk] at h
   exact ⟨0, k, x, rfl, h, by simp⟩
  ·rw [List.getElem?_append_right (by omega)] at h
   obtain ⟨i, j, c, h1, h2, h3⟩ := flatten_from (fun c hc => hw c (List.mem_cons_of_mem _ hc)) h
   exact ⟨i + 1, j, c, by simpa using h1, h2, by rw [Nat.succ_mul]; omega⟩
theorem add_add (a : Addr) (m j : Nat) : (a.add m).add j = a.add (m + j) := by
 simp only [Addr.add]
 by_cases h1 : m = 0
 ·subst h1; simp
 ·by_cases h2 : j = 0
  ·subst h2; simp
  ·simp [h1, h2, Nat.add_assoc]
theorem open_all : ∀ d, OpenAt enc P w G d
 | 0 => fun t T h => by simp [shapeOf] at h
 | d + 1 => by
  intro t T hT μ h S n cs' x hf
  simp only [shapeOf] at hT
  split at hT
  ·rename_i k hk
   cases hT
   obtain ⟨m, rfl, _, hw⟩ := DataW.trod_int hk hf
   exact ⟨μ, h, m, [.int k m], .refl S, .cons (.int _ _) (.nil _), rfl, hw⟩
  ·rename_i hk
   cases hT
   obtain ⟨m, rfl, _⟩ := DataW.trod_bool hk hf
   exact ⟨μ, h, m, [.bool m], .refl S, .cons (.bool _) (.nil _), rfl⟩
  ·rename_i hk
   cases hT
   obtain ⟨m, rfl, _, hw⟩ := DataW.trod_string hk hf
   exact ⟨μ, h, m, [.string m], .refl S, .cons (.str _) (.nil _), rfl, hw⟩
  ·rename_i fs hk
   split at hT
   ·rename_i r hr
    split at hT
    ·rename_i hw
     have hT := Option.some.inj hT
     subst hT
     obtain ⟨xs, m, rfl, _, hl, hxl, hall⟩ := DataW.trod_struct hk hf
     have := open_fields (open_all d) (l := cs') (n := m) fs.toList 0 r hr (fun i f hi => by
      have hi' : fs[i]? = some f := by simpa using hi
      have hlt : i < xs.length := by rw [hxl]; exact (Array.getElem?_eq_some_iff.1 hi').1
      exact ⟨xs[i], by rw [hall i f hi']; simp [hlt]⟩) μ h S
     rw [List.drop_zero, ← hw, ← hl, List.take_length] at this
     exact this
    ·cases hT
   ·cases hT
  ·rename_i m e hk
   split at hT
   ·rename_i r hr
    split at hT
    ·rename_i hw
     cases hT
     obtain ⟨xs, mm, rfl, _, hl, hxl, hall⟩ := DataW.trod_array hk hf
     have := open_items (open_all d) hr (l := cs') (n := mm) m 0 (fun i hi => by
      refine ⟨xs[i]'(by omega), ?_⟩
      have := hall i hi
      rw [hw.1] at this
      rw [Nat.zero_add, this]; simp [hxl, hi]) μ h S
     rw [Nat.zero_mul, List.drop_zero, repT_w, ← hw.2, ← hl, List.take_length] at this
     exact this
    ·cases hT
   ·cases hT
  ·rename_i e hk
   split at hT
   ·rename_i r hr
    split at hT
    ·rename_i hw
     cases hT
     obtain ⟨hwc, hw0⟩ := hw
     rcases DataW.trod_slice hk hf with ⟨rfl, _⟩ | ⟨a, len, cap, elems, rest, m, _, rfl, _, _, hl, _, hlen, hel, hsp, _⟩
     ·exact ⟨μ, h, [], [.slice none 0 0], .refl S, .cons .nilSlice (.nil _), ⟨none, 0, 0⟩, rfl, rfl, (fun a ha => by cases ha), fun i x hx => by simp at hx⟩
     ·obtain ⟨hrl, hrest⟩ := hsp rfl
      have each : ∀ i, i < cap → ∃ ci x, w.cells? 0 (a.add (i * r.w)) r.w = some ci ∧ DataW.trod enc P w 0 (fun _ => true) true m e ci = some x := by
       intro i hi
       have hb : ∃ x, (w.cells? 0 (a.add (i * P.cellsOf e)) (P.cellsOf e)).bind (DataW.trod enc P w 0 (fun _ => true) true m e) = some x := by
        by_cases hil : i < len
        ·exact ⟨elems[i]'(by omega), by rw [hel i hil]; simp [hlen, hil]⟩
        ·have := hrest (i - len) (by omega)
         rw [show len + (i - len) = i by omega] at this
         exact ⟨rest[i - len]'(by omega), by rw [this]; simp⟩
       obtain ⟨x, hx⟩ := hb
       rw [hwc] at hx
       obtain ⟨ci, h1, h2⟩ := Option.bind_eq_some_iff.1 hx
       exact ⟨ci, x, h1, h2⟩
      have each' : ∀ i, i < cap → ((w.cells? 0 (a.add (i * r.w)) r.w).getD []).length = r.w ∧ (∀ j, j < r.w → w.cell? (a.add (i * r.w + j)) = ((w.cells? 0 (a.add (i * r.w)) r.w).getD [])[j]?) := by
       intro i hi
       obtain ⟨ci, x, h1, _⟩ := each i hi
       obtain ⟨_, q1, q2⟩ := World.cells?_some h1
       rw [h1, Option.getD_some]
       refine ⟨q1, fun j hj => ?_⟩
       have := q2 j hj
       rw [← this]
       rw [add_add]
      obtain ⟨μ1, h1, vs, cc, m1, lv, lc, al⟩ := open_seq (T := r) (ci := fun i => (w.cells? 0 (a.add (i * r.w)) r.w).getD []) cap (fun i hi μ h S => by
       obtain ⟨ci, x, q1, q2⟩ := each i hi
       simp only [q1, Option.getD_some]
       exact open_all d _ _ hr μ h S _ _ _ q2) μ h S
      have S1 := m1.st
      by_cases h0 : cap = 0
      ·subst h0
       obtain rfl : len = 0 := by omega
       refine ⟨_, h1.hole, [], [.slice (some ⟨h1.next, 0, none⟩) 0 0], ⟨S1.hole (0, 0, 0), m1.le.trans (BMap.put_le (S1.z _ (Nat.le_refl _))), m1.kp.trans (Keeps.hole h1)⟩, .cons (.empty fun _ => rfl) (.nil _), ⟨some ⟨h1.next, 0, none⟩, 0, 0⟩, rfl, rfl, fun a ha => ?_, fun i x hx => by simp at hx⟩
       cases ha; exact Nat.lt_succ_self _
      ·have c0 : ∃ v, w.cell? (a.add 0) = some v := by
        have := (each' 0 (by omega)).2 0 hw0
        rw [Nat.zero_mul] at this
        have hlt : 0 < ((w.cells? 0 (a.add 0) r.w).getD []).length := by
         have := (each' 0 (by omega)).1
         rw [Nat.zero_mul] at this; omega
        refine ⟨((w.cells? 0 (a.add 0) r.w).getD [])[0], ?_⟩
        rw [this]; simp [hlt]
       obtain ⟨v0, c0⟩ := c0
       obtain ⟨b, off, sp⟩ := a
       have hsp : sp = none := by simpa [Addr.add] using World.cell?_spot c0
       subst hsp
       obtain ⟨arr, ee, fz, hO⟩ : ∃ arr e fz, w.heap[b]? = some (.cells arr e fz) := by
        have := c0
        rw [add_plain] at this
        unfold World.cell? at this
        split at this
        ·rename_i c e fz hh; exact ⟨c, e, fz, hh⟩
        ·cases this
       have hcc : ∀ c ∈ cc, c.length = r.w := by
        intro c hc
        obtain ⟨i, hi⟩ := List.mem_iff_getElem?.1 hc
        have hlt : i < cap := by rw [← lc]; exact (List.getElem?_eq_some_iff.1 hi).1
        obtain ⟨v, c', _, q2, _, q4⟩ := al i hlt
        rw [hi] at q2; cases q2
        exact q4.len
       have A := S1.add (d := off) (cs := cc.flatten) hO (fun k v hv => by
        obtain ⟨i, j, c, q1, q2, rfl⟩ := flatten_from hcc hv
        have hlt : i < cap := by rw [← lc]; exact (List.getElem?_eq_some_iff.1 q1).1
        obtain ⟨v', c', _, r2, r3, _⟩ := al i hlt
        rw [q1] at r2; cases r2
        obtain ⟨u, u1, u2⟩ := r3.get q2
        have hj : j < r.w := by
         have := (List.getElem?_eq_some_iff.1 u1).1
         rw [(each' i hlt).1] at this; exact this
        have hc := (each' i hlt).2 j hj
        rw [u1, add_plain] at hc
        unfold World.cell? at hc
        rw [hO] at hc
        exact ⟨u, by simpa using hc, u2⟩)
       refine ⟨_, _, vs.take len, [.slice (some ⟨h1.next, 0, none⟩) len cap], ⟨A, m1.le.trans (BMap.put_le (S1.z _ (Nat.le_refl _))), m1.kp.trans (Keeps.new h1 _)⟩, .cons (.slice (put_self _ _ _) rfl) (.nil _), ⟨some ⟨h1.next, 0, none⟩, len, cap⟩, rfl, ?_, fun a ha => ?_, fun i x hx => ?_⟩
       ·show len = _; rw [List.length_take]; omega
       ·cases ha; simp
       ·rw [List.getElem?_take] at hx
        split at hx
        ·rename_i hi
         obtain ⟨v, c, q1, q2, _, q4⟩ := al i (by omega)
         rw [hx] at q1; cases q1
         refine ⟨_, cc.flatten, ee, false, 0, c, rfl, by simp, q4.len, fun j u hu => ?_, q4.keeps (Keeps.new h1 _)⟩
         rw [Nat.zero_add]
         exact flatten_at hcc q2 j u hu
        ·cases hx
    ·cases hT
   ·cases hT
  ·cases hT
theorem Start.data {μ : BMap} {h : AHeap} (S : Start w μ h G) {t : TypeId} {T : DT} {d : Nat} (hT : shapeOf P d t = some T) {v : Value} {dd : DataW H} {ps : List MemPlace} (hd : DataW.Trod enc P w 0 (fun _ => true) true t v dd ps) :
  ∃ μ' h' x cs, More w μ h μ' h' G ∧ VRs μ' cs v.cells.toList ∧ Rep h' T x cs := by
 obtain ⟨fuel, hf⟩ := hd
 obtain ⟨μ', h', x, cs, m, r, p⟩ := open_all d t T hT μ h S _ _ _ hf
 exact ⟨μ', h', x, cs, m, r, p⟩
theorem Start.dataL {μ : BMap} {h : AHeap} (S : Start w μ h G) {t e : TypeId} {T : DT} {d : Nat} (hT : shapeOf P d t = some (.list T)) (ht : P.underlying t = some (.slice e)) {r : Reach} {base : Nat} {v : Value} {dd : DataW H} {ps : List MemPlace} (hval : Value.okWide P w r base t v) (hd : DataW.Trod enc P w 0 (fun _ => true) true t v dd ps) :
  ∃ (μ' : BMap) (h' : AHeap) (s : Slc) (xs : List T.V), More w μ h μ' h' G ∧ VR μ' (.slice s.a s.len s.cap) v ∧ Rep h' (.list T) xs [.slice s.a s.len s.cap] := by
 obtain ⟨a0, len, cap, rfl⟩ := okWide_slice ht hval
 obtain ⟨μ', h', x, cs, m, vr, p⟩ := S.data hT hd
 have p0 := p
 obtain ⟨sl, rfl, _⟩ := p
 refine ⟨μ', h', sl, x, m, ?_, p0⟩
 obtain ⟨v', t', e', h1, h2⟩ := vr.cons_inv
 simp [Value.cells] at e'
 rw [e'.1]; exact h1
end
theorem Rep.rowS {h : AHeap} {s : Slc} {xs : List ByteArray} (r : Rep h (.list .str) xs [.slice s.a s.len s.cap]) : Row encS h s xs := by
 obtain ⟨sl, e, hl, hb, hx⟩ := r
 simp at e
 obtain ⟨e1, e2, e3⟩ := e
 refine ⟨e2.trans hl, fun i x hi => ?_⟩
 obtain ⟨a, c, ee, r, fz, cx, h1, h2, _, h4, h5⟩ := hx i x hi
 have h5 : cx = [.string x] := h5.1
 have := h4 0 (.string x) (by rw [h5]; rfl)
 rw [DT.w, Nat.mul_one, Nat.add_zero] at this
 exact ⟨a, c, ee, r, fz, e1.trans h1, hb a h1, h2, this⟩
theorem Rep.each {h : AHeap} {t : DT} {xs : List t.V} {s : Slc} (r : Rep h (.list t) xs [.slice s.a s.len s.cap]) : ∀ x ∈ xs, ∃ cs, Rep h t x cs := by
 obtain ⟨sl, e, hl, hb, hx⟩ := r
 intro x hx'
 obtain ⟨i, hi⟩ := List.getElem?_of_mem hx'
 obtain ⟨a, c, ee, r, fz, cx, _, _, _, _, h5⟩ := hx i x hi
 exact ⟨cx, h5⟩
theorem Rep.sizes {h : AHeap} {s : Slc} {xs : List ByteArray} (r : Rep h (.list .str) xs [.slice s.a s.len s.cap]) : ∀ x ∈ xs, x.size ≤ 9223372036854775807 := fun x hx => by
 obtain ⟨cs, _, h⟩ := r.each x hx
 exact h
theorem Rep.lt {h : AHeap} {t : DT} {xs : List t.V} {s : Slc} (r : Rep h (.list t) xs [.slice s.a s.len s.cap]) : ∀ a, s.a = some a → a.block < h.next := by
 obtain ⟨sl, e, hl, hb, hx⟩ := r
 simp at e
 obtain ⟨e1, e2, e3⟩ := e
 intro a ha
 exact hb a (e1.symm.trans ha)
end Gx
namespace Gx
open Go Go.RowKit Go.ChangeShapes Go.WideShapes
section
variable {H : Type} {enc : TypeId × Value → H} {P : Program} {w : World} {r : Reach} {base : Nat} {t e : TypeId} {v : Value} {d : DataW H} {ps : List MemPlace} {μ : BMap} {h : AHeap}
end
end Gx
namespace Gx
open Go Go.RowKit Go.ChangeShapes Go.WideShapes
section
variable {H : Type} {enc : TypeId × Value → H} {P : Program} {w : World} {r : Reach} {base : Nat} {t e : TypeId} {v : Value} {d : DataW H} {ps : List MemPlace} {μ : BMap}
end
end Gx
namespace Gx
open Go Go.RowKit Go.ChangeShapes Go.WideShapes
section
variable {H : Type} {enc : TypeId × Value → H} {P : Program} {w : World} {r : Reach} {base : Nat} {t e : TypeId} {v : Value} {d : DataW H} {ps : List MemPlace}
end
end Gx
namespace Gx
open Go
section
variable {α β : Type} [DecidableEq α]
def encM (kv : α → Value) (vv : β → Value) (e : α × β × Nat) : Value × Value × Nat := (kv e.1, vv e.2.1, e.2.2)
def fdM (n : α) : List (α × β × Nat) → Nat → Option (Nat × β)
 | [], _ => none
 | e :: es, i => if e.1 = n then some (i, e.2.1) else fdM n es (i + 1)
def lkM (n : α) : List (α × β × Nat) → Option β
 | [] => none
 | e :: es => if e.1 = n then some e.2.1 else lkM n es
def ptM (n : α) (d : β) (cl : Nat) : List (α × β × Nat) → List (α × β × Nat)
 | [] => [(n, d, cl)]
 | e :: es => if e.1 = n then (n, d, e.2.2) :: es else e :: ptM n d cl es
theorem findE_fdM {kv : α → Value} {vv : β → Value} {n : α} : ∀ (es : List (α × β × Nat)) (i : Nat), (∀ e ∈ es, keyEq (kv n) (kv e.1) = some (decide (e.1 = n))) → findE (kv n) (es.map (encM kv vv)) i = some ((fdM n es i).map fun p => (p.1, vv p.2))
 | [], _, _ => rfl
 | e :: es, i, hk => by
  have ih := findE_fdM (kv := kv) (vv := vv) (n := n) es (i + 1) fun x hx => hk x (List.mem_cons_of_mem _ hx)
  have h0 := hk e (List.mem_cons_self ..)
  simp only [List.map_cons, encM, findE, fdM]
  rw [h0]
  by_cases h : e.1 = n
  ·rw [if_pos h, decide_eq_true h]; rfl
  ·rw [if_neg h, decide_eq_false h]
   exact ih
theorem fdM_lk (n : α) : ∀ (es : List (α × β × Nat)) (i : Nat), (fdM n es i).map (·.2) = lkM n es
 | [], _ => rfl
 | e :: es, i => by
  simp only [fdM, lkM]
  by_cases h : e.1 = n
  ·rw [if_pos h, if_pos h]; rfl
  ·rw [if_neg h, if_neg h]; exact fdM_lk n es (i + 1)
theorem fdM_ge {n : α} : ∀ {es : List (α × β × Nat)} {i : Nat} {p}, fdM n es i = some p → i ≤ p.1
 | [], _, _, h => by cases h
 | e :: es, i, p, h => by
  simp only [fdM] at h
  split at h
  ·cases h; exact Nat.le_refl _
  ·have := fdM_ge h; omega
theorem fdM_mod {kv : α → Value} {vv : β → Value} {n : α} {d : β} {cl : Nat} : ∀ {es : List (α × β × Nat)} {i : Nat} {p}, fdM n es i = some p → (es.map (encM kv vv)).modify (p.1 - i) (fun e => (kv n, vv d, e.2.2)) = (ptM n d cl es).map (encM kv vv) ∧ (ptM n d cl es).length = es.length
 | [], _, _, h => by cases h
 | e :: es, i, p, h => by
  simp only [fdM] at h
  split at h
  ·rename_i q
   cases h
   simp only [Nat.sub_self, ptM, if_pos q]; exact ⟨rfl, rfl⟩
  ·rename_i q
   have h1 := fdM_ge h
   obtain ⟨ih, il⟩ := fdM_mod (kv := kv) (vv := vv) (d := d) (cl := cl) h
   simp only [ptM, if_neg q, List.map_cons, List.length_cons]
   rw [show p.1 - i = (p.1 - (i + 1)) + 1 by omega, List.modify_succ_cons, ih, il]
   exact ⟨rfl, rfl⟩
theorem fdM_none {kv : α → Value} {vv : β → Value} {n : α} {d : β} {cl : Nat} : ∀ {es : List (α × β × Nat)} {i : Nat}, fdM n es i = none → es.map (encM kv vv) ++ [(kv n, vv d, cl)] = (ptM n d cl es).map (encM kv vv) ∧ (ptM n d cl es).length = es.length + 1
 | [], _, _ => ⟨rfl, rfl⟩
 | e :: es, i, h => by
  simp only [fdM] at h
  split at h
  ·cases h
  ·rename_i q
   obtain ⟨ih, il⟩ := fdM_none (kv := kv) (vv := vv) (d := d) (cl := cl) h
   simp only [ptM, if_neg q, List.map_cons, List.cons_append, List.length_cons]
   rw [ih, il]
   exact ⟨rfl, rfl⟩
theorem lkM_mem {n : α} : ∀ {es : List (α × β × Nat)} {v : β}, lkM n es = some v → ∃ e ∈ es, e.1 = n ∧ e.2.1 = v
 | [], v, h => by simp [lkM] at h
 | e :: es, v, h => by
  simp only [lkM] at h
  split at h
  ·rename_i c; exact ⟨e, by simp, c, by simpa using h⟩
  ·obtain ⟨x, hx, e2⟩ := lkM_mem h; exact ⟨x, by simp [hx], e2⟩
theorem ptM_mem {n : α} {d : β} {cl : Nat} : ∀ {es : List (α × β × Nat)} {e}, e ∈ ptM n d cl es → (e.1 = n ∧ e.2.1 = d) ∨ e ∈ es
 | [], e, h => by simp [ptM] at h; exact .inl (by rw [h]; exact ⟨rfl, rfl⟩)
 | x :: es, e, h => by
  simp only [ptM] at h
  split at h
  ·rcases List.mem_cons.1 h with rfl | h
   ·exact .inl ⟨rfl, rfl⟩
   ·exact .inr (by simp [h])
  ·rcases List.mem_cons.1 h with rfl | h
   ·exact .inr (by simp)
   ·rcases ptM_mem h with g | g
    ·exact .inl g
    ·exact .inr (by simp [g])
theorem lkM_ptM {n m : α} {d : β} {cl : Nat} : ∀ {es : List (α × β × Nat)}, lkM m (ptM n d cl es) = if m = n then some d else lkM m es
 | [] => by
  simp only [ptM, lkM]
  by_cases h : m = n
  ·rw [if_pos h.symm, if_pos h]
  ·rw [if_neg (fun q => h q.symm), if_neg h]
 | e :: es => by
  simp only [ptM]
  by_cases c : e.1 = n
  ·rw [if_pos c]
   simp only [lkM]
   by_cases h : m = n
   ·rw [if_pos h.symm, if_pos h]
   ·rw [if_neg (fun q => h q.symm), if_neg h, if_neg (fun q => h (q.symm.trans c))]
  ·rw [if_neg c]
   simp only [lkM]
   by_cases h : e.1 = m
   ·rw [if_pos h, if_pos h, if_neg (fun q => c (h.trans q))]
   ·rw [if_neg h, if_neg h, lkM_ptM]
def MapAt (kv : α → Value) (vv : β → Value) (h : AHeap) (mb : Nat) (es : List (α × β × Nat)) : Prop := h.get mb = some (.map (es.map (encM kv vv)) es.length)
omit [DecidableEq α] in
theorem MapAt.chg {kv : α → Value} {vv : β → Value} {h h' : AHeap} {mb : Nat} {es : List (α × β × Nat)} {S : Nat → Prop} (M : MapAt kv vv h mb es) (c : Chg S h h') (hl : mb < h.next) (hs : ¬ S mb) : MapAt kv vv h' mb es := (c.oth mb hl hs).trans M
theorem MapAt.look {kv : α → Value} {vv : β → Value} {h : AHeap} {mb : Nat} {es : List (α × β × Nat)} (M : MapAt kv vv h mb es) {n : α} (hk : ∀ e ∈ es, keyEq (kv n) (kv e.1) = some (decide (e.1 = n))) {γ : Type} {dec : Value → Option γ} {dv : β → γ} (hd : ∀ v, dec (vv v) = some (dv v)) {z : Value} {z0 : γ} (hz : dec z = some z0) :
  lookE dec z h (some mb) (kv n) = some (match lkM n es with | some v => (dv v, true) | none => (z0, false)) := by
 have e := findE_fdM (kv := kv) (vv := vv) es 0 hk
 have l := fdM_lk n es 0
 have M : h.get mb = some (.map (es.map (encM kv vv)) es.length) := M
 simp only [lookE, M, e]
 rw [← l]
 cases fdM n es 0 with
 | none => simp [hz]
 | some p => simp [hd]
theorem MapAt.upd {kv : α → Value} {vv : β → Value} {h : AHeap} {mb : Nat} {es : List (α × β × Nat)} (M : MapAt kv vv h mb es) {n : α} (hk : ∀ e ∈ es, keyEq (kv n) (kv e.1) = some (decide (e.1 = n))) (d : β) :
  ∃ h', updE h mb (kv n) (vv d) = some h' ∧ MapAt kv vv h' mb (ptM n d es.length es) ∧ Chg (· = mb) h h' ∧ h'.next = h.next := by
 have e := findE_fdM (kv := kv) (vv := vv) es 0 hk
 have M : h.get mb = some (.map (es.map (encM kv vv)) es.length) := M
 simp only [updE, M, e]
 cases hf : fdM n es 0 with
 | none =>
  obtain ⟨a, b⟩ := fdM_none (kv := kv) (vv := vv) (d := d) (cl := es.length) hf
  refine ⟨_, rfl, ?_, Chg.set (.inr rfl), rfl⟩
  rw [MapAt, a, b]; simp
 | some p =>
  obtain ⟨a, b⟩ := fdM_mod (kv := kv) (vv := vv) (d := d) (cl := es.length) hf
  rw [Nat.sub_zero] at a
  refine ⟨_, rfl, ?_, Chg.set (.inr rfl), rfl⟩
  simp only []
  rw [MapAt, a, b]; simp
end
def keyV (l : List UInt8) : Value := .agg ⟨l.map encB⟩
theorem intsEq_map : ∀ {a b : List UInt8}, a.length = b.length → intsEq (a.map encB) (b.map encB) = some (decide (b = a))
 | [], [], _ => rfl
 | x :: a, y :: b, h => by
  simp only [List.map_cons, encB, intsEq]
  rw [intsEq_map (by simpa using h)]
  simp only [decide_true, cond_true, Option.some.injEq]
  have e : ((x.toNat : Int) == (y.toNat : Int)) = decide (y = x) := by
   by_cases c : y = x
   ·rw [c]; simp
   ·rw [decide_eq_false c]
    have : ¬ x.toNat = y.toNat := fun q => c (UInt8.toNat_inj.1 q).symm
    exact beq_eq_false_iff_ne.2 (by omega)
  rw [e]
  by_cases c1 : y = x
  ·by_cases c2 : b = a
   ·simp [c1, c2]
   ·simp [c1, c2]
  ·simp [c1]
 | [], _ :: _, h => by simp at h
 | _ :: _, [], h => by simp at h
theorem keyEq_V {a b : List UInt8} (h : a.length = b.length) : keyEq (keyV a) (keyV b) = some (decide (b = a)) := intsEq_map h
theorem keyEq_S (a b : ByteArray) : keyEq (.string a) (.string b) = some (decide (b = a)) := by
 simp only [keyEq]
 rw [ba_beq]
 congr 1
 by_cases c : a = b
 ·simp [c]
 ·rw [decide_eq_false c, decide_eq_false (fun q => c q.symm)]
end Gx
namespace Gx
open Go
def be32 (a b c d : UInt8) : UInt32 := UInt32.ofNat (a.toNat * 16777216 + b.toNat * 65536 + c.toNat * 256 + d.toNat)
theorem be32_nat (a b c d : UInt8) : (be32 a b c d).toNat = a.toNat * 16777216 + b.toNat * 65536 + c.toNat * 256 + d.toNat := by
 unfold be32
 rw [UInt32.toNat_ofNat']
 have := a.toNat_lt; have := b.toNat_lt; have := c.toNat_lt; have := d.toNat_lt
 omega
theorem or32n {a b : Nat} (ha : a < 2 ^ 32) (hb : b < 2 ^ 32) : Go.bits .or .u32 (a : Int) (b : Int) = ((a ||| b : Nat) : Int) := (bits_nat .u32 32 (by decide) wr_u32 a b ha hb).2
theorem or_shift (a : Nat) {b n : Nat} (h : b < 2 ^ n) : a * 2 ^ n ||| b = a * 2 ^ n + b := by
 have := Nat.shiftLeft_add_eq_or_of_lt h a
 rw [Nat.shiftLeft_eq] at this
 exact this.symm
theorem or_bytes (a b c d : UInt8) :
  Go.bits .or .u32 (Go.bits .or .u32 (Go.bits .or .u32 (IntKind.wrap .u32 ((IntKind.wrap .u32 (a.toNat : Int)) * 16777216)) (IntKind.wrap .u32 ((IntKind.wrap .u32 (b.toNat : Int)) * 65536))) (IntKind.wrap .u32 ((IntKind.wrap .u32 (c.toNat : Int)) * 256))) (IntKind.wrap .u32 (d.toNat : Int)) = ((be32 a b c d).toNat : Int) := by
 have ha := a.toNat_lt; have hb := b.toNat_lt; have hc := c.toNat_lt; have hd := d.toNat_lt
 have wa : IntKind.wrap .u32 ((IntKind.wrap .u32 (a.toNat : Int)) * 16777216) = ((a.toNat * 16777216 : Nat) : Int) := by
  rw [Go.IntKind.wrap_u32, Go.IntKind.wrap_u32]; omega
 have wb : IntKind.wrap .u32 ((IntKind.wrap .u32 (b.toNat : Int)) * 65536) = ((b.toNat * 65536 : Nat) : Int) := by
  rw [Go.IntKind.wrap_u32, Go.IntKind.wrap_u32]; omega
 have wc : IntKind.wrap .u32 ((IntKind.wrap .u32 (c.toNat : Int)) * 256) = ((c.toNat * 256 : Nat) : Int) := by
  rw [Go.IntKind.wrap_u32, Go.IntKind.wrap_u32]; omega
 have wd : IntKind.wrap .u32 (d.toNat : Int) = ((d.toNat : Nat) : Int) := by
  rw [Go.IntKind.wrap_u32]; omega
 have o1 : a.toNat * 16777216 ||| b.toNat * 65536 = a.toNat * 16777216 + b.toNat * 65536 := or_shift a.toNat (n := 24) (by omega)
 have o2 : a.toNat * 16777216 + b.toNat * 65536 ||| c.toNat * 256 = a.toNat * 16777216 + b.toNat * 65536 + c.toNat * 256 := by
  have := or_shift (a.toNat * 256 + b.toNat) (n := 16) (b := c.toNat * 256) (by omega)
  rw [show (a.toNat * 256 + b.toNat) * 2 ^ 16 = a.toNat * 16777216 + b.toNat * 65536 by omega] at this
  exact this
 have o3 : a.toNat * 16777216 + b.toNat * 65536 + c.toNat * 256 ||| d.toNat = a.toNat * 16777216 + b.toNat * 65536 + c.toNat * 256 + d.toNat := by
  have := or_shift (a.toNat * 65536 + b.toNat * 256 + c.toNat) (n := 8) (b := d.toNat) (by omega)
  rw [show (a.toNat * 65536 + b.toNat * 256 + c.toNat) * 2 ^ 8 = a.toNat * 16777216 + b.toNat * 65536 + c.toNat * 256 by omega] at this
  exact this
 rw [wa, wb, wc, wd, or32n (by omega) (by omega), o1, or32n (by omega) (by omega), o2, or32n (by omega) (by omega), o3, be32_nat]
def wAt (l : List UInt8) (i : Nat) : UInt32 := be32 (l[4 * i]?.getD 0) (l[4 * i + 1]?.getD 0) (l[4 * i + 2]?.getD 0) (l[4 * i + 3]?.getD 0)
def sg0 (x : UInt32) : UInt32 := rotr x 7 ^^^ rotr x 18 ^^^ (x >>> 3)
def sg1 (x : UInt32) : UInt32 := rotr x 17 ^^^ rotr x 19 ^^^ (x >>> 10)
def sched (m : Nat → UInt32) (i : Nat) : UInt32 :=
 if i < 16 then m i else sched m (i - 16) + sg0 (sched m (i - 15)) + sched m (i - 7) + sg1 (sched m (i - 2))
termination_by i
decreasing_by all_goals omega
theorem sched_lo {m : Nat → UInt32} {i : Nat} (h : i < 16) : sched m i = m i := by rw [sched, if_pos h]
theorem sched_hi {m : Nat → UInt32} {i : Nat} (h : 16 ≤ i) : sched m i = sched m (i - 16) + sg0 (sched m (i - 15)) + sched m (i - 7) + sg1 (sched m (i - 2)) := by rw [sched, if_neg (by omega)]
structure St where
 a : UInt32
 b : UInt32
 c : UInt32
 d : UInt32
 e : UInt32
 f : UInt32
 g : UInt32
 h : UInt32
def Sg0 (x : UInt32) : UInt32 := rotr x 2 ^^^ rotr x 13 ^^^ rotr x 22
def Sg1 (x : UInt32) : UInt32 := rotr x 6 ^^^ rotr x 11 ^^^ rotr x 25
def chO (e f g : UInt32) : UInt32 := (e &&& f) ^^^ (~~~e &&& g)
def maj (a b c : UInt32) : UInt32 := (a &&& b) ^^^ (a &&& c) ^^^ (b &&& c)
def tmpT (k w : UInt32) (s : St) : UInt32 := s.h + Sg1 s.e + chO s.e s.f s.g + k + w
def tmpU (s : St) : UInt32 := Sg0 s.a + maj s.a s.b s.c
def rnd (k w : UInt32) (s : St) : St := ⟨tmpT k w s + tmpU s, s.a, s.b, s.c, s.d + tmpT k w s, s.e, s.f, s.g⟩
def rounds (K W : Nat → UInt32) : Nat → St → St
 | 0, s => s
 | n + 1, s => rnd (K n) (W n) (rounds K W n s)
def shaK : List UInt32 := [
  0x428a2f98, 0x71374491, 0xb5c0fbcf, 0xe9b5dba5, 0x3956c25b, 0x59f111f1, 0x923f82a4, 0xab1c5ed5,
  0xd807aa98, 0x12835b01, 0x243185be, 0x550c7dc3, 0x72be5d74, 0x80deb1fe, 0x9bdc06a7, 0xc19bf174,
  0xe49b69c1, 0xefbe4786, 0x0fc19dc6, 0x240ca1cc, 0x2de92c6f, 0x4a7484aa, 0x5cb0a9dc, 0x76f988da,
  0x983e5152, 0xa831c66d, 0xb00327c8, 0xbf597fc7, 0xc6e00bf3, 0xd5a79147, 0x06ca6351, 0x14292967,
  0x27b70a85, 0x2e1b2138, 0x4d2c6dfc, 0x53380d13, 0x650a7354, 0x766a0abb, 0x81c2c92e, 0x92722c85,
  0xa2bfe8a1, 0xa81a664b, 0xc24b8b70, 0xc76c51a3, 0xd192e819, 0xd6990624, 0xf40e3585, 0x106aa070,
  0x19a4c116, 0x1e376c08, 0x2748774c, 0x34b0bcb5, 0x391c0cb3, 0x4ed8aa4a, 0x5b9cca4f, 0x682e6ff3,
  0x748f82ee, 0x78a5636f, 0x84c87814, 0x8cc70208, 0x90befffa, 0xa4506ceb, 0xbef9a3f7, 0xc67178f2]
def kAt (i : Nat) : UInt32 := shaK[i]?.getD 0
def addSt (s t : St) : St := ⟨s.a + t.a, s.b + t.b, s.c + t.c, s.d + t.d, s.e + t.e, s.f + t.f, s.g + t.g, s.h + t.h⟩
def comp (s : St) (l : List UInt8) : St := addSt s (rounds kAt (sched (wAt l)) 64 s)
def st0 : St := ⟨0x6a09e667, 0xbb67ae85, 0x3c6ef372, 0xa54ff53a, 0x510e527f, 0x9b05688c, 0x1f83d9ab, 0x5be0cd19⟩
def wl (s : St) : List UInt32 := [s.a, s.b, s.c, s.d, s.e, s.f, s.g, s.h]
theorem wl_length (s : St) : (wl s).length = 8 := rfl
def hcells (l : List UInt32) (r : Slc) (long : Int) : List Value := l.map encU ++ [.slice r.a r.len r.cap, .int .i64 long]
theorem hcells_length {l : List UInt32} {r : Slc} {long : Int} (h : l.length = 8) : (hcells l r long).length = 10 := by simp [hcells, h]
theorem hcells_word {l : List UInt32} {r : Slc} {long : Int} {i : Nat} {x : UInt32} (h : l[i]? = some x) : (hcells l r long)[i]? = some (.int .u32 (x.toNat : Int)) := by
 have hi := (List.getElem?_eq_some_iff.1 h).1
 unfold hcells
 rw [List.getElem?_append_left (by simpa using hi), List.getElem?_map, h]; rfl
theorem hcells_set {l : List UInt32} {r : Slc} {long : Int} {i : Nat} (x : UInt32) (hi : i < l.length) : (hcells l r long).set i (.int .u32 (x.toNat : Int)) = hcells (l.set i x) r long := by
 unfold hcells
 rw [List.set_append_left _ _ (by simpa using hi), List.map_set]; rfl
structure KG (b : Nat) (h : AHeap) : Prop where
 lt : b < h.next
 ok : ∃ c e r fz, h.get b = some (.cells c e r fz) ∧ ∀ i, i < 64 → c[i]? = some (.int .u32 ((kAt i).toNat : Int))
theorem KG.chg {S : Nat → Prop} {b : Nat} {h h' : AHeap} (k : KG b h) (c : Chg S h h') (hs : ¬ S b) : KG b h' := by
 obtain ⟨l, e, r, fz, h1, h2⟩ := k.ok
 exact ⟨Nat.lt_of_lt_of_le k.lt c.nx, l, e, r, fz, (c.oth b k.lt hs).trans h1, h2⟩
theorem KG.ld {b : Nat} {h : AHeap} (k : KG b h) {i : Nat} (hi : i < 64) : ldI .u32 ⟨b, i, none⟩ h = some ((kAt i).toNat : Int) := by
 obtain ⟨l, e, r, fz, h1, h2⟩ := k.ok
 exact sldI_at h1 (h2 i hi)
def absorb (s : St) (l : List UInt8) : St := if 64 ≤ l.length then absorb (comp s (l.take 64)) (l.drop 64) else s
termination_by l.length
decreasing_by rw [List.length_drop]; omega
theorem absorb_ge {s : St} {l : List UInt8} (h : 64 ≤ l.length) : absorb s l = absorb (comp s (l.take 64)) (l.drop 64) := by rw [absorb, if_pos h]
theorem absorb_lt {s : St} {l : List UInt8} (h : l.length < 64) : absorb s l = s := by rw [absorb, if_neg (by omega)]
def restOf (l : List UInt8) : List UInt8 := l.drop (64 * (l.length / 64))
theorem restOf_length (l : List UInt8) : (restOf l).length = l.length % 64 := by unfold restOf; rw [List.length_drop]; omega
theorem restOf_lt {l : List UInt8} (h : l.length < 64) : restOf l = l := by
 unfold restOf
 rw [Nat.div_eq_of_lt h]; rfl
theorem restOf_ge {l : List UInt8} (h : 64 ≤ l.length) : restOf l = restOf (l.drop 64) := by
 unfold restOf
 rw [List.drop_drop, List.length_drop]
 congr 1; omega
theorem absorb_app (t : List UInt8) : ∀ (n : Nat) (s : St) (l : List UInt8), l.length ≤ n → absorb (absorb s l) (restOf l ++ t) = absorb s (l ++ t)
 | n, s, l, hn => by
  by_cases h : 64 ≤ l.length
  ·match n with
   | 0 => omega
   | n + 1 =>
    rw [absorb_ge h, restOf_ge h, absorb_app t n (comp s (l.take 64)) (l.drop 64) (by rw [List.length_drop]; omega), absorb_ge (l := l ++ t) (by rw [List.length_append]; omega), List.take_append_of_le_length h, List.drop_append_of_le_length h]
  ·rw [absorb_lt (s := s) (l := l) (by omega), restOf_lt (by omega)]
theorem restOf_app (l t : List UInt8) : restOf (restOf l ++ t) = restOf (l ++ t) := by
 unfold restOf
 have e : (l.drop (64 * (l.length / 64)) ++ t) = (l ++ t).drop (64 * (l.length / 64)) := (List.drop_append_of_le_length (by omega)).symm
 rw [e, List.drop_drop, List.length_drop, List.length_append]
 congr 1; omega
def b8 (n : Nat) : UInt8 := UInt8.ofNat n
def out32 (x : UInt32) : List UInt8 := [b8 (x.toNat / 16777216), b8 (x.toNat / 65536), b8 (x.toNat / 256), b8 x.toNat]
def outSt (s : St) : List UInt8 := out32 s.a ++ out32 s.b ++ out32 s.c ++ out32 s.d ++ out32 s.e ++ out32 s.f ++ out32 s.g ++ out32 s.h
def be64 (n : Nat) : List UInt8 := [b8 (n / 2 ^ 56), b8 (n / 2 ^ 48), b8 (n / 2 ^ 40), b8 (n / 2 ^ 32), b8 (n / 2 ^ 24), b8 (n / 2 ^ 16), b8 (n / 2 ^ 8), b8 n]
def zeroN (n : Nat) : Nat := (119 - n % 64) % 64
def padT (n : Nat) : List UInt8 := 128 :: List.replicate (zeroN n) 0 ++ be64 (n * 8)
def digest (l : List UInt8) : List UInt8 := outSt (absorb st0 (l ++ padT l.length))
end Gx
namespace Gx
open Go Go.RowKit Go.ChangeShapes Go.WideShapes
theorem laid_words {P : Program} {W : World} {name : String} {d : DataW Unit} {g : Nat} {t e : TypeId} {l : List UInt32} (hg : P.globalNamed name = some g) (ht : (P.globals[g]?).map (·.type) = some t) (hu : P.underlying t = some (.array l.length e)) (he : P.underlying e = some (.int .u32)) (hc : P.cellsOf e = 1)
  (hd : d = .agg (l.map fun x => .lit (.int .u32 (x.toNat : Int)))) (hp : ([(name, d)].all fun x => x.2.handleName?.isNone) = true) (h : laidMetH P [(name, d)] W) :
  ∃ arr ty fz, W.heap[g]? = some (.cells arr ty fz) ∧ ∀ (i : Nat) (x : UInt32), l[i]? = some x → arr[i]? = some (.int .u32 (x.toNat : Int)) := by
 rw [MakeChecks.laidMetH_plain _ _ _ hp] at h
 obtain ⟨ps, ⟨g0, t0, cs0, f0, p0, q0, hg0, ht0, hv0, hd0, _, _⟩, _, _⟩ := h
 obtain rfl := Option.some.inj (hg.symm.trans hg0)
 obtain rfl := Option.some.inj (ht.symm.trans ht0)
 have hcell : ∀ i, W.cell? ⟨g, i, none⟩ = cs0[i]? := fun i => World.var?_cell hg0 hv0 i
 obtain ⟨xs, m, rfl, hx1, hlen, hxl, hel⟩ := DataW.trod_array hu hd0
 have cs : ∀ (i : Nat) (x : UInt32), l[i]? = some x → cs0[i]? = some (.int .u32 (x.toNat : Int)) := fun i x hx => by
  have hi : i < l.length := (List.getElem?_eq_some_iff.1 hx).1
  have e1 := hel i hi
  rw [hc, Nat.mul_one] at e1
  obtain ⟨y, hy⟩ : ∃ y, xs[i]? = some y := ⟨xs[i]'(by omega), by simp [hxl, hi]⟩
  rw [hy] at e1
  obtain ⟨k, q1, q2, _⟩ := DataW.trod_int he e1
  have q3 : y.1 = .lit (.int .u32 (x.toNat : Int)) := by
   simp only [Prod.mk.injEq] at hx1
   have e2 := hx1.1
   rw [hd] at e2
   have e3 : l.map (fun x => (.lit (.int .u32 (x.toNat : Int)) : DataW Unit)) = xs.map (·.1) := DataW.agg.inj e2
   have e4 := congrArg (fun z => z[i]?) e3
   simp only [List.getElem?_map, hx, hy, Option.map_some, Option.some.injEq] at e4
   exact e4.symm
  rw [q2] at q3
  have hk : k = (x.toNat : Int) := by simpa using q3
  subst hk
  have e5 : (cs0.toList.drop i)[0]? = some (.int .u32 (x.toNat : Int)) := by
   have := congrArg (fun z => z[0]?) q1
   simpa [List.getElem?_take] using this
  rw [List.getElem?_drop, Nat.add_zero] at e5
  simpa using e5
 have c0 : ∃ x, l[0]? = some x ∨ l = [] := by
  cases l with
  | nil => exact ⟨0, .inr rfl⟩
  | cons x l => exact ⟨x, .inl rfl⟩
 simp only [World.var?, hg0, Option.bind_some] at hv0
 split at hv0
 ·rename_i c ty fz hO
  refine ⟨c, ty, fz, hO, fun i x hx => ?_⟩
  have := hcell i
  unfold World.cell? at this
  rw [hO] at this
  simp only at this
  rw [cs i x hx] at this
  simpa using this
 ·cases hv0
def hG (G g : Nat) (ty : TypeId) (l : List UInt32) : AHeap := ⟨G, fun b => if b = g then some (.cells (l.map encU) ty false 0) else none⟩
theorem Start.glob {w : World} {G g : Nat} (hg : g < G) {arr : Array Value} {ty : TypeId} {fz : Nat × Nat} {l : List UInt32} (hO : w.heap[g]? = some (.cells arr ty fz)) (hl : ∀ (i : Nat) (x : UInt32), l[i]? = some x → arr[i]? = some (.int .u32 (x.toNat : Int))) :
  Start w (fun b => if b < G then some (b, 0, if b = g then arr.size else 0) else none) (hG G g ty l) G := by
 refine ⟨⟨fun b B hb => ?_, fun b₁ b₂ B₁ B₂ p₁ p₂ h1 h2 _ hr _ _ => ?_, fun b B hb => ?_, fun x hx => ⟨_, if_pos hx⟩, Nat.le_refl _⟩, fun b hb => ?_, fun b B hb => ?_⟩
 ·simp only [hG] at hb
  split at hb
  ·rename_i e; subst e; cases hb
   refine ⟨b, 0, arr.size, _, by simp [hg], hO, rfl, rfl, fun i v hv => ?_, fun hf => by cases hf⟩
   rw [List.getElem?_map] at hv
   cases hx : l[i]? with
   | none => rw [hx] at hv; cases hv
   | some x =>
    rw [hx] at hv; cases hv
    exact ⟨_, by rw [Nat.zero_add]; exact hl i x hx, .int _ _⟩
  ·cases hb
 ·simp only [hG] at h1
  split at h1
  ·cases h1; cases hr
  ·cases h1
 ·simp only [hG] at hb
  split at hb
  ·rename_i e; subst e; exact hg
  ·cases hb
 ·have hb : G ≤ b := hb
  exact if_neg (by omega)
 ·simp only [hG] at hb
  split at hb
  ·cases hb; rfl
  ·cases hb
theorem kg_hG {G g : Nat} (hg : g < G) (ty : TypeId) : KG g (hG G g ty shaK) := by
 refine ⟨hg, _, _, _, _, if_pos rfl, fun i hi => ?_⟩
 have hl : shaK.length = 64 := rfl
 obtain ⟨x, hx⟩ := isome (l := shaK) (i := i) (by rw [hl]; exact hi)
 rw [List.getElem?_map, hx]
 unfold kAt
 rw [hx]; rfl
end Gx
namespace Gx
open Go Go.RowKit Go.ChangeShapes Go.WideShapes
section
variable {H : Type} {enc : TypeId × Value → H} {P : Program} {w : World} {G : Nat}
end
end Gx
