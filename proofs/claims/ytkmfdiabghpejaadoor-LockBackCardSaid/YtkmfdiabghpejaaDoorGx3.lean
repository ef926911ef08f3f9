import Derived.Laws.BitsLemmas
import Derived.Below
import Derived.Lib.Repeat
import Derived.Lib.Join
import Derived.Shelf.Strconv.Itoa3
import Derived.Sort.KeysCollected
import Derived.Lib.AtoiErrMem
import Derived.Lib.LaidTab
import Derived.Lib.Atoi
import Derived.SizedLaws
import Derived.SliceStrings
import Derived.ChangeSlices
import Derived.ChangeOld
import Derived.Carry
import Derived.OpenShut
import Derived.ShutString
import Derived.DataReads
import Derived.Stop.LaidErr
import Derived.Test.YtkmfdiabghpejaaDoorGx2
namespace Gx
open Go
theorem bx (k : IntKind) (j : Nat) (hj : j ≤ k.bits) (hk : ∀ n : Int, 0 ≤ n → n < 2 ^ j → k.wrap n = n) (a b : Nat) (ha : a < 2 ^ j) (hb : b < 2 ^ j) :
  Go.bits .xor k a b = ((a ^^^ b : Nat) : Int) := by
 have hp : 2 ^ j ≤ 2 ^ k.bits := Nat.pow_le_pow_right (by decide) hj
 have ha' : a % 2 ^ k.bits = a := Nat.mod_eq_of_lt (Nat.lt_of_lt_of_le ha hp)
 have hb' : b % 2 ^ k.bits = b := Nat.mod_eq_of_lt (Nat.lt_of_lt_of_le hb hp)
 have cast : ∀ n : Nat, n < 2 ^ j → ((n : Nat) : Int) < 2 ^ j := fun n h => by exact_mod_cast h
 simp only [bits, BitVec.ofInt_natCast, BitVec.toNat_xor, BitVec.toNat_ofNat, ha', hb']
 exact hk _ (Int.natCast_nonneg _) (cast _ (Nat.xor_lt_two_pow ha hb))
end Gx
namespace Gx
open Go
theorem bnd {α β : Type} {x : Option α} {f : α → Option β} {v : α} {r : Option β} (h : x = some v) (k : f v = r) : x.bind f = r := by rw [h]; exact k
theorem jn {α R : Type} {j : α} {b : α → R} {r : R} (k : b j = r) : joinK j b = r := k
theorem ifp {α : Type} {c : Prop} [Decidable c] {a b r : α} (h : c) (k : a = r) : (if c then a else b) = r := by rw [if_pos h]; exact k
theorem ifn {α : Type} {c : Prop} [Decidable c] {a b r : α} (h : ¬ c) (k : b = r) : (if c then a else b) = r := by rw [if_neg h]; exact k
theorem gp {R : Type} {p : Prop} {x r : Option R} (h : p) (k : x = r) : guardP p x = r := by rw [guardP_true h]; exact k
theorem iterK_add {α : Type} (bot : α) (b : α → α) (n : Nat) : ∀ m, iterK bot (m + n) b = iterK (iterK bot n b) m b
 | 0 => by rw [Nat.zero_add]; rfl
 | m + 1 => by rw [Nat.succ_add]; simp only [iterK]; rw [iterK_add bot b n m]
theorem iterK_of {α : Type} (bot : α) (b : α → α) {k m : Nat} (h : m ≤ k) : ∃ bot', iterK bot k b = iterK bot' m b := by
 obtain ⟨n, rfl⟩ : ∃ n, k = m + n := ⟨k - m, by omega⟩
 exact ⟨_, iterK_add bot b n m⟩
theorem iterK_s {α : Type} (bot : α) (b : α → α) (m : Nat) : iterK bot (m + 1) b = b (iterK bot m b) := rfl
theorem w64 (x : Int) (h : -9223372036854775808 ≤ x ∧ x < 9223372036854775808) : IntKind.wrap .i64 x = x := by
 rw [Go.IntKind.wrap_i64]; omega
structure Chg (S : Nat → Prop) (h h' : AHeap) : Prop where
 nx : h.next ≤ h'.next
 oth : ∀ x, x < h.next → ¬ S x → h'.get x = h.get x
theorem Chg.refl (S : Nat → Prop) (h : AHeap) : Chg S h h := ⟨Nat.le_refl _, fun _ _ _ => rfl⟩
theorem Chg.trans {S : Nat → Prop} {h h1 h2 : AHeap} (a : Chg S h h1) (c : Chg S h1 h2) : Chg S h h2 :=
 ⟨Nat.le_trans a.nx c.nx, fun x hx hs => (c.oth x (Nat.lt_of_lt_of_le hx a.nx) hs).trans (a.oth x hx hs)⟩
theorem Chg.new {S : Nat → Prop} (h : AHeap) (B : ABlk) : Chg S h (h.new B) := ⟨by simp, fun x hx _ => by simp; omega⟩
theorem Chg.set {S : Nat → Prop} {h : AHeap} {b : Nat} {B : ABlk} (hb : h.next ≤ b ∨ S b) : Chg S h (h.set b B) :=
 ⟨by simp, fun x hx hs => by
  simp only [AHeap.get_set]
  rw [if_neg]
  rintro rfl
  rcases hb with hb | hb
  ·omega
  ·exact hs hb⟩
theorem Chg.wk {S T : Nat → Prop} {h h' : AHeap} (a : Chg S h h') (st : ∀ x, x < h.next → S x → T x) : Chg T h h' := ⟨a.nx, fun x hx ht => a.oth x hx fun hs => ht (st x hx hs)⟩
theorem Chg.beh {S T : Nat → Prop} {h h1 h2 : AHeap} (a : Chg S h h1) (c : Chg T h1 h2) (st : ∀ x, x < h.next → T x → S x) : Chg S h h2 :=
 ⟨Nat.le_trans a.nx c.nx, fun x hx hs => (c.oth x (Nat.lt_of_lt_of_le hx a.nx) fun ht => hs (st x hx ht)).trans (a.oth x hx hs)⟩
def NoB (_ : Nat) : Prop := False
abbrev Keeps (h h' : AHeap) : Prop := Chg NoB h h'
theorem Keeps.new (h : AHeap) (B : ABlk) : Keeps h (h.new B) := Chg.new h B
theorem Chg.keeps {S : Nat → Prop} {h h' : AHeap} (a : Keeps h h') : Chg S h h' := a.wk fun _ _ f => False.elim f
theorem st1_of {h : AHeap} {b o : Nat} {sp : Option Nat} {c : List Value} {e : TypeId} {v : Value} (hb : h.get b = some (.cells c e true 0)) (ho : o < c.length) (hv : one v = true) : st1 ⟨b, o, sp⟩ v h = some (h.set b (.cells (c.set o v) e true 0)) := by
 simp [st1, AHeap.wr1, hb, ho, hv]
def Row {α : Type} (enc : α → Value) (h : AHeap) (s : Slc) (xs : List α) : Prop :=
 s.len = xs.length ∧ ∀ i x, xs[i]? = some x → ∃ a c e r fz, s.a = some a ∧ a.block < h.next ∧ h.get a.block = some (.cells c e r fz) ∧ c[a.off + i]? = some (enc x)
def encI (x : Int) : Value := .int .i64 x
def encS (s : ByteArray) : Value := .string s
def encB (b : UInt8) : Value := .int .u8 (b.toNat : Int)
section
variable {α : Type} {enc : α → Value} {h h' : AHeap} {s : Slc} {xs : List α}
theorem Row.nil (enc : α → Value) (h : AHeap) (a : Option Addr) (cap : Nat) : Row enc h ⟨a, 0, cap⟩ [] := ⟨rfl, fun i x hx => by simp at hx⟩
theorem Row.rd (R : Row enc h s xs) {i : Nat} {x : α} (hx : xs[i]? = some x) : ∃ q, idxL 1 s (i : Int) = some q ∧ h.rd1 q.block q.off = some (enc x) ∧ q.block < h.next ∧ ∃ a, s.a = some a ∧ a.block = q.block := by
 obtain ⟨a, c, e, r, fz, h1, h2, h3, h4⟩ := R.2 i x hx
 have hi : i < xs.length := (List.getElem?_eq_some_iff.1 hx).1
 refine ⟨⟨a.block, a.off + i * 1, none⟩, ?_, ?_, h2, a, h1, rfl⟩
 ·simp only [idxL, h1]
  rw [if_pos (by rw [R.1]; omega)]
  simp
 ·simp only [AHeap.rd1, h3, Nat.mul_one]
  exact h4
theorem Row.chg {S : Nat → Prop} (R : Row enc h s xs) (c : Chg S h h') (hs : ∀ a, s.a = some a → ¬ S a.block) : Row enc h' s xs :=
 ⟨R.1, fun i x hx => by
  obtain ⟨a, cc, e, r, fz, h1, h2, h3, h4⟩ := R.2 i x hx
  exact ⟨a, cc, e, r, fz, h1, Nat.lt_of_lt_of_le h2 c.nx, by rw [c.oth _ h2 (hs a h1)]; exact h3, h4⟩⟩
theorem Row.keeps (R : Row enc h s xs) (c : Keeps h h') : Row enc h' s xs := R.chg c fun _ _ f => f
theorem Row.of_block {b o : Nat} {sp : Option Nat} {cap : Nat} {c : List Value} {e : TypeId} {r : Bool} {fz : Nat} (hb : h.get b = some (.cells c e r fz)) (hn : b < h.next)
  (hc : ∀ i x, xs[i]? = some x → c[o + i]? = some (enc x)) : Row enc h ⟨some ⟨b, o, sp⟩, xs.length, cap⟩ xs :=
 ⟨rfl, fun i x hx => ⟨_, c, e, r, fz, rfl, hn, hb, hc i x hx⟩⟩
end
theorem Row.ldI {h : AHeap} {s : Slc} {xs : List Int} (R : Row encI h s xs) {i : Nat} {x : Int} (hx : xs[i]? = some x) : ∃ q, idxL 1 s (i : Int) = some q ∧ Gx.ldI .i64 q h = some x := by
 obtain ⟨q, h1, h2, _⟩ := R.rd hx
 exact ⟨q, h1, by simp [Gx.ldI, h2, encI, decI]⟩
theorem Row.ldS {h : AHeap} {s : Slc} {xs : List ByteArray} (R : Row encS h s xs) {i : Nat} {x : ByteArray} (hx : xs[i]? = some x) : ∃ q, idxL 1 s (i : Int) = some q ∧ Gx.ldS q h = some x := by
 obtain ⟨q, h1, h2, _⟩ := R.rd hx
 exact ⟨q, h1, by simp [Gx.ldS, h2, encS, decS]⟩
theorem Row.ldB {h : AHeap} {s : Slc} {xs : List UInt8} (R : Row encB h s xs) {i : Nat} {x : UInt8} (hx : xs[i]? = some x) : ∃ q, idxL 1 s (i : Int) = some q ∧ Gx.ldI .u8 q h = some (x.toNat : Int) := by
 obtain ⟨q, h1, h2, _⟩ := R.rd hx
 exact ⟨q, h1, by simp [Gx.ldI, h2, encB, decI]⟩
def bl (s : ByteArray) : List UInt8 := s.data.toList
theorem bl_inj {s t : ByteArray} (h : bl s = bl t) : s = t := by
 cases s; cases t; simp [bl] at h; rw [h]
theorem rdL_all {h : AHeap} {b : Nat} {c : List Value} {e : TypeId} {r : Bool} {fz : Nat} (hb : h.get b = some (.cells c e r fz)) : h.rdL b 0 c.length = some c := by
 unfold AHeap.rdL
 cases hc : c.length with
 | zero => simp at hc; subst hc; rfl
 | succ n => simp only [hb]; rw [if_pos (by omega), List.drop_zero, ← hc, List.take_length]
def outB {α : Type} (enc : α → Value) (e : TypeId) (l : List α) : ABlk := .cells (l.map enc) e true 0
theorem fill_step {α : Type} {init : List α} {f : Nat → α} {i : Nat} (hi : i < init.length) :
  ((List.range i).map f ++ init.drop i).set i (f i) = (List.range (i + 1)).map f ++ init.drop (i + 1) := by
 rw [List.set_append_right _ _ (by simp), List.length_map, List.length_range, Nat.sub_self, List.drop_eq_getElem_cons hi, List.set_cons_zero, List.range_succ, List.map_append, List.append_assoc]
 rfl
theorem fill {α R : Type} (enc : α → Value) (e : TypeId) (B : Nat) (f : Nat → α) (init : List α) (h0 : AHeap) (L : Nat → Nat → AHeap → Option R) (J : AHeap → Option R)
  (step : ∀ m i l, i + (m + 1) = init.length → l.length = init.length → (∀ k, i ≤ k → l[k]? = init[k]?) → L (m + 1) i (h0.set B (outB enc e l)) = L m (i + 1) (h0.set B (outB enc e (l.set i (f i)))))
  (base : ∀ h, L 0 init.length h = J h) :
  ∀ m i, i + m = init.length → L m i (h0.set B (outB enc e ((List.range i).map f ++ init.drop i))) = J (h0.set B (outB enc e ((List.range init.length).map f)))
 | 0, i, hi => by
  obtain rfl : i = init.length := by omega
  rw [base, List.drop_length, List.append_nil]
 | m + 1, i, hi => by
  rw [step m i _ hi (by simp; omega) (fun k hk => by
   rw [List.getElem?_append_right (by simpa using hk)]
   simp only [List.length_map, List.length_range, List.getElem?_drop]
   congr 1; omega), fill_step (by omega)]
  exact fill enc e B f init h0 L J step base m (i + 1) (by omega)
theorem ba_beq (x y : ByteArray) : (x == y) = decide (x = y) := by
 cases x with | mk a => cases y with | mk b =>
 show (a == b) = _
 rw [Bool.eq_iff_iff]
 simp
theorem isome {α : Type} {l : List α} {i : Nat} (h : i < l.length) : ∃ x, l[i]? = some x := ⟨l[i], by simp [h]⟩
theorem mem_of {α : Type} {l : List α} {i : Nat} {x : α} (h : l[i]? = some x) : x ∈ l := List.mem_of_getElem? h
theorem w1 {i : Nat} (h : i < 9223372036854775807) : IntKind.wrap .i64 ((i : Int) + 1) = ((i + 1 : Nat) : Int) := by rw [w64 _ (by omega)]; omega
theorem Row.rdS {α : Type} {enc : α → Value} {h : AHeap} {s : Slc} {xs : List α} (R : Row enc h s xs) : Gx.rdS 1 s h = some (xs.map enc) := by
 unfold Gx.rdS
 cases hx : xs with
 | nil =>
  have h0 : s.len = 0 := by rw [R.1, hx]; rfl
  cases s.a with
  | none => rfl
  | some a => simp [h0, AHeap.rdL]
 | cons x t =>
  obtain ⟨a, c, e, r, fz, h1, h2, h3, h4⟩ := R.2 0 x (by rw [hx]; rfl)
  rw [h1]
  simp only [R.1, hx, List.length_cons, Nat.mul_one, AHeap.rdL, h3]
  have all : ∀ i y, xs[i]? = some y → c[a.off + i]? = some (enc y) := fun i y hy => by
   obtain ⟨a', c', e', r', fz', h1', h2', h3', h4'⟩ := R.2 i y hy
   rw [h1] at h1'; cases h1'
   rw [h3] at h3'; cases h3'
   exact h4'
  have hlen : a.off + xs.length ≤ c.length := by
   obtain ⟨y, hy⟩ := isome (l := xs) (i := xs.length - 1) (by rw [hx]; simp)
   have := (List.getElem?_eq_some_iff.1 (all _ _ hy)).1
   rw [hx] at this ⊢
   simp at this ⊢
   omega
  rw [if_pos (by rw [hx] at hlen; exact hlen)]
  congr 1
  rw [← hx]
  apply List.ext_getElem?
  intro i
  rw [List.getElem?_take, List.getElem?_drop, List.getElem?_map]
  have hl : t.length + 1 = xs.length := by rw [hx]; rfl
  rw [hl]
  by_cases hi : i < xs.length
  ·obtain ⟨y, hy⟩ := isome hi
   rw [if_pos hi, all i y hy, hy]
   rfl
  ·rw [if_neg hi]; simp [hi]
theorem allOne_map {α : Type} {enc : α → Value} (ho : ∀ x, one (enc x) = true) : ∀ xs : List α, allOne (xs.map enc) = true
 | [] => rfl
 | x :: t => by simp [allOne, ho, allOne_map ho t]
theorem Row.take {α : Type} {enc : α → Value} {h : AHeap} {a : Option Addr} {n cap cap' : Nat} {xs ys : List α} (R : Row enc h ⟨a, n, cap⟩ (xs ++ ys)) : Row enc h ⟨a, xs.length, cap'⟩ xs :=
 ⟨rfl, fun i x hx => R.2 i x (by rw [List.getElem?_append_left (List.getElem?_eq_some_iff.1 hx).1]; exact hx)⟩
structure Grown {α : Type} (enc : α → Value) (e : TypeId) (h : AHeap) (b : Nat) (s : Slc) (xs : List α) : Prop where
 s : s = ⟨some ⟨b, 0, some 2⟩, xs.length, xs.length⟩
 blk : h.get b = some (outB enc e xs)
 ne : xs ≠ []
theorem Grown.append {α : Type} {enc : α → Value} {e : TypeId} {h : AHeap} {b bytes : Nat} {s : Slc} {xs ys : List α} (g : Grown enc e h b s xs) (ho : ∀ x, one (enc x) = true) (hy : ys ≠ []) (hs : 2 * (xs.length + ys.length) * bytes ≤ 281474976710656) (h1 : 1 ≤ bytes) :
  appendA 1 bytes e h s (ys.map enc) ys.length = some (⟨some ⟨h.next, 0, some 2⟩, (xs ++ ys).length, (xs ++ ys).length⟩, (h.kill b).new (outB enc e (xs ++ ys))) := by
 obtain ⟨rfl, hb, hx⟩ := g
 have l1 : xs.length ≠ 0 := fun e => hx (List.length_eq_zero_iff.1 e)
 have l2 : ys.length ≠ 0 := fun e => hy (List.length_eq_zero_iff.1 e)
 unfold appendA
 rw [if_neg (by simp; omega), if_pos ⟨by simpa using hs, h1⟩]
 simp only [outB] at hb
 simp only [hb]
 rw [if_pos (by simp [allOne_map ho ys, l1])]
 simp [outB, List.take_of_length_le]
theorem Grown.of {α : Type} {enc : α → Value} {e : TypeId} {h : AHeap} {xs : List α} (hx : xs ≠ []) : Grown enc e (h.new (outB enc e xs)) h.next ⟨some ⟨h.next, 0, some 2⟩, xs.length, xs.length⟩ xs := ⟨rfl, by simp, hx⟩
theorem Grown.row {α : Type} {enc : α → Value} {e : TypeId} {h : AHeap} {b : Nat} {s : Slc} {xs : List α} (g : Grown enc e h b s xs) (hb : b < h.next) : Row enc h s xs := by
 obtain ⟨rfl, hg, hx⟩ := g
 exact Row.of_block hg hb fun i x hi => by rw [Nat.zero_add, List.getElem?_map, hi]; rfl
theorem Grown.chg {α : Type} {S : Nat → Prop} {enc : α → Value} {e : TypeId} {h h' : AHeap} {b : Nat} {s : Slc} {xs : List α} (g : Grown enc e h b s xs) (hb : b < h.next) (c : Chg S h h') (hs : ¬ S b) : Grown enc e h' b s xs :=
 ⟨g.s, by rw [c.oth b hb hs]; exact g.blk, g.ne⟩
theorem Chg.kill_new {S : Nat → Prop} {h : AHeap} {b : Nat} {B : ABlk} (hb : h.next ≤ b ∨ S b) : Chg S h ((h.kill b).new B) :=
 ⟨by simp, fun x hx hs => by
  show (if x = h.next then some B else if x = b then none else h.get x) = h.get x
  rw [if_neg (by omega), if_neg]
  rintro rfl
  rcases hb with hb | hb
  ·omega
  ·exact hs hb⟩
structure Acc {α : Type} (enc : α → Value) (e : TypeId) (base : Nat) (h : AHeap) (s : Slc) (xs : List α) : Prop where
 st : (s = ⟨none, 0, 0⟩ ∧ xs = []) ∨ ∃ b, Grown enc e h b s xs
 lt : ∀ a, s.a = some a → a.block < h.next ∧ base ≤ a.block
theorem Acc.nil {α : Type} (enc : α → Value) (e : TypeId) (base : Nat) (h : AHeap) : Acc enc e base h ⟨none, 0, 0⟩ [] := ⟨.inl ⟨rfl, rfl⟩, fun a ha => by cases ha⟩
def ofS (s : Slc) (y : Nat) : Prop := ∃ a, s.a = some a ∧ y = a.block
theorem Acc.chg {α : Type} {S : Nat → Prop} {enc : α → Value} {e : TypeId} {base : Nat} {h h' : AHeap} {s : Slc} {xs : List α} (A : Acc enc e base h s xs) (c : Chg S h h') (hs : ∀ a, s.a = some a → ¬ S a.block) : Acc enc e base h' s xs := by
 refine ⟨A.st.imp id ?_, fun a ha => ⟨Nat.lt_of_lt_of_le (A.lt a ha).1 c.nx, (A.lt a ha).2⟩⟩
 rintro ⟨b, g⟩
 have hb := A.lt ⟨b, 0, some 2⟩ (by rw [g.s])
 exact ⟨b, g.chg hb.1 c (hs ⟨b, 0, some 2⟩ (by rw [g.s]))⟩
theorem Acc.keeps {α : Type} {enc : α → Value} {e : TypeId} {base : Nat} {h h' : AHeap} {s : Slc} {xs : List α} (A : Acc enc e base h s xs) (c : Keeps h h') : Acc enc e base h' s xs := A.chg c fun _ _ f => f
theorem Acc.row {α : Type} {enc : α → Value} {e : TypeId} {base : Nat} {h : AHeap} {s : Slc} {xs : List α} (A : Acc enc e base h s xs) : Row enc h s xs := by
 rcases A.st with ⟨rfl, rfl⟩ | ⟨b, g⟩
 ·exact Row.nil _ _ _ _
 ·exact g.row (A.lt ⟨b, 0, some 2⟩ (by rw [g.s])).1
theorem Acc.push {α : Type} {enc : α → Value} {e : TypeId} {base bytes : Nat} {h : AHeap} {s : Slc} {xs : List α} (A : Acc enc e base h s xs) (ho : ∀ x, one (enc x) = true) (x : α) (hs : 2 * (xs.length + 1) * bytes ≤ 281474976710656) (h1 : 1 ≤ bytes) (hbase : base ≤ h.next) :
  ∃ s' h', appendA 1 bytes e (h.new (.cells [enc x] e true 0)) s [enc x] 1 = some (s', h') ∧ Acc enc e base h' s' (xs ++ [x]) ∧ Chg (ofS s) h h' ∧ ∀ a, s'.a = some a → h.next ≤ a.block := by
 obtain ⟨g1, hg1⟩ : ∃ g1, g1 = h.new (.cells [enc x] e true 0) := ⟨_, rfl⟩
 have k1 : Keeps h g1 := hg1 ▸ Keeps.new h _
 have n1 : g1.next = h.next + 1 := by rw [hg1]; rfl
 rw [← hg1]
 have A1 := A.keeps k1
 rcases A1.st with ⟨rfl, rfl⟩ | ⟨b, g⟩
 ·refine ⟨⟨some ⟨g1.next, 0, some 2⟩, 1, 1⟩, g1.new (outB enc e [x]), ?_, ⟨.inr ⟨g1.next, rfl, by simp, by simp⟩, ?_⟩, (k1.trans (Keeps.new g1 _)).wk fun _ _ f => f.elim, ?_⟩
  ·simp only [appendA]
   rw [if_neg (by omega), if_pos (by simp at hs ⊢; omega)]
   rfl
  ·intro a ha; cases ha; simp; omega
  ·intro a ha; cases ha; simp; omega
 ·have hb := A1.lt ⟨b, 0, some 2⟩ (by rw [g.s])
  have hb0 := A.lt ⟨b, 0, some 2⟩ (by rw [g.s])
  have ap := g.append (bytes := bytes) (ys := [x]) ho (by simp) (by simpa using hs) h1
  refine ⟨_, _, ap, ⟨.inr ⟨g1.next, rfl, by simp, by simp⟩, ?_⟩, ?_, ?_⟩
  ·intro a ha; cases ha; simp; omega
  ·refine Chg.beh (T := (· = b)) (Chg.keeps k1) (Chg.kill_new (.inr rfl)) fun y hy e => ⟨⟨b, 0, some 2⟩, by rw [g.s], e⟩
  ·intro a ha; cases ha; simp; omega
def ApartS (s t : Slc) : Prop := ∀ a b, s.a = some a → t.a = some b → a.block ≠ b.block
theorem ApartS.symm {s t : Slc} (h : ApartS s t) : ApartS t s := fun a b ha hb e => h b a hb ha e.symm
theorem ApartS.fresh {s t : Slc} {n : Nat} (hs : ∀ a, s.a = some a → a.block < n) (ht : ∀ a, t.a = some a → n ≤ a.block) : ApartS s t := fun a b ha hb e => by
 have := hs a ha; have := ht b hb; omega
theorem bl_extract (s : ByteArray) (i j : Nat) : bl (s.extract i j) = ((bl s).take j).drop i := by
 simp [bl, ByteArray.data_extract, List.drop_take]
theorem subS_of {s : ByteArray} {lo hi : Option Int} {i j : Nat} (hh : hi.getD s.size = (j : Int)) (hl : lo.getD 0 = (i : Int)) (h1 : i ≤ j) (h2 : j ≤ s.size) : Gx.subS s lo hi = some ⟨⟨((bl s).take j).drop i⟩⟩ := by
 simp only [Gx.subS, hh, hl]
 rw [if_pos (by omega)]
 congr 1
 apply bl_inj
 rw [Int.toNat_natCast, Int.toNat_natCast]
 exact bl_extract s i j
end Gx
namespace Gx
open Go
def Wp {R : Type} (x : Option R) (Q : R → Prop) : Prop := ∃ r, x = some r ∧ Q r
theorem Wp.bnd {R α : Type} {Q : R → Prop} {x : Option α} {a : α} {f : α → Option R} (h : x = some a) (k : Wp (f a) Q) : Wp (x.bind f) Q := by rw [h]; exact k
theorem Wp.jn {R α : Type} {Q : R → Prop} {J : α} {b : α → Option R} (k : ∀ j, j = J → Wp (b j) Q) : Wp (joinK J b) Q := k J rfl
theorem Wp.ifp {R : Type} {Q : R → Prop} {c : Prop} [Decidable c] {a b : Option R} (h : c) (k : Wp a Q) : Wp (if c then a else b) Q := by rw [if_pos h]; exact k
theorem Wp.ifn {R : Type} {Q : R → Prop} {c : Prop} [Decidable c] {a b : Option R} (h : ¬ c) (k : Wp b Q) : Wp (if c then a else b) Q := by rw [if_neg h]; exact k
theorem Wp.gp {R : Type} {Q : R → Prop} {p : Prop} {x : Option R} (h : p) (k : Wp x Q) : Wp (guardP p x) Q := by rw [guardP_true h]; exact k
theorem Wp.of {R : Type} {Q : R → Prop} {r : R} (h : Q r) : Wp (some r) Q := ⟨r, rfl, h⟩
theorem Wp.mono {R : Type} {Q P : R → Prop} {x : Option R} (h : Wp x Q) (k : ∀ r, Q r → P r) : Wp x P := let ⟨r, e, q⟩ := h; ⟨r, e, k r q⟩
theorem Wp.call {R α : Type} {Q : R → Prop} {P : α → Prop} {x : Option α} {f : α → Option R} (h : Wp x P) (k : ∀ a, P a → Wp (f a) Q) : Wp (x.bind f) Q := let ⟨a, e, p⟩ := h; .bnd e (k a p)
theorem Keeps.set {h0 h : AHeap} {b : Nat} {B : ABlk} (k : Keeps h0 h) (hb : h0.next ≤ b) : Keeps h0 (h.set b B) :=
 Chg.beh k (Chg.set (S := fun x => x = b) (.inr rfl)) fun x hx e => by have e : x = b := e; omega
theorem sldI_at {h : AHeap} {b o : Nat} {sp : Option Nat} {c : List Value} {e : TypeId} {r : Bool} {fz : Nat} {k : IntKind} {x : Int} (hb : h.get b = some (.cells c e r fz)) (hc : c[o]? = some (.int k x)) : ldI k ⟨b, o, sp⟩ h = some x := by
 simp [ldI, AHeap.rd1, hb, hc, decI]
theorem sldA_at {h : AHeap} {b n : Nat} {sp : Option Nat} {c : List Value} {e : TypeId} {r : Bool} {fz : Nat} (hb : h.get b = some (.cells c e r fz)) (hc : c.length = n) : ldA n ⟨b, 0, sp⟩ h = some c := by
 subst hc; exact rdL_all hb
theorem sstL_at {h : AHeap} {b n : Nat} {sp : Option Nat} {c cs : List Value} {e : TypeId} (hb : h.get b = some (.cells c e true 0)) (hc : c.length = n) (hl : cs.length = n) (ho : allOne cs = true) (hn : n ≠ 0) :
  stL n ⟨b, 0, sp⟩ cs h = some (h.set b (.cells cs e true 0)) := by
 unfold stL
 rw [hl, Nat.beq_refl, cond_true]
 cases cs with
 | nil => simp at hl; omega
 | cons v t =>
  simp only [AHeap.wrL, hb]
  rw [if_pos ⟨by omega, Nat.le_refl _, ho⟩]
  simp only [splice, List.take_zero, List.nil_append, Nat.zero_add, hl]
  rw [← hc, List.drop_length, List.append_nil]
theorem Acc.app {α : Type} {enc : α → Value} {e : TypeId} {base bytes : Nat} {h : AHeap} {s : Slc} {xs : List α} (A : Acc enc e base h s xs) (ho : ∀ x, one (enc x) = true) (ys : List α) (hs : 2 * (xs.length + ys.length) * bytes ≤ 281474976710656) (h1 : 1 ≤ bytes) (hbase : base ≤ h.next) :
  ∃ s' h', appendA 1 bytes e h s (ys.map enc) ys.length = some (s', h') ∧ Acc enc e base h' s' (xs ++ ys) ∧ Chg (ofS s) h h' ∧ ∀ a, s'.a = some a → h.next ≤ a.block ∨ s.a = some a := by
 by_cases hy : ys = []
 ·subst hy
  rw [List.append_nil]
  rcases A.st with ⟨rfl, rfl⟩ | ⟨b, g⟩
  ·exact ⟨⟨none, 0, 0⟩, h, by simp [appendA], A, Chg.refl _ _, fun a ha => by cases ha⟩
  ·refine ⟨s, h, ?_, A, Chg.refl _ _, fun a ha => .inr ha⟩
   rw [g.s]; simp [appendA]
 ·have hl : ys.length ≠ 0 := fun q => hy (List.length_eq_zero_iff.1 q)
  rcases A.st with ⟨rfl, rfl⟩ | ⟨b, g⟩
  ·refine ⟨⟨some ⟨h.next, 0, some 2⟩, ys.length, ys.length⟩, h.new (outB enc e ys), ?_, ⟨.inr ⟨h.next, by simpa using Grown.of hy⟩, ?_⟩, Chg.new _ _, ?_⟩
   ·simp only [appendA, Nat.zero_add]
    rw [if_neg (by omega), if_pos (by simp at hs; omega)]
    rfl
   ·intro a ha; cases ha; simp; omega
   ·intro a ha; cases ha; simp
  ·have hb := A.lt ⟨b, 0, some 2⟩ (by rw [g.s])
   have ap := g.append (bytes := bytes) (ys := ys) ho hy hs h1
   refine ⟨_, _, ap, ⟨.inr ⟨h.next, rfl, by simp, by simp [hy]⟩, ?_⟩, Chg.kill_new (.inr ⟨⟨b, 0, some 2⟩, by rw [g.s], rfl⟩), ?_⟩
   ·intro a ha; cases ha; simp; omega
   ·intro a ha; cases ha; simp
structure Lst {α : Type} (enc : α → Value) (e : TypeId) (n0 : Nat) (h : AHeap) (s : Slc) (xs : List α) : Prop where
 ne : xs ≠ []
 st : ∃ b sp, s = ⟨some ⟨b, 0, sp⟩, xs.length, xs.length⟩ ∧ h.get b = some (outB enc e xs) ∧ n0 ≤ b ∧ b < h.next ∧ (sp = some 0 ∨ sp = some 2)
theorem Lst.chg {α : Type} {S : Nat → Prop} {enc : α → Value} {e : TypeId} {n0 : Nat} {h h' : AHeap} {s : Slc} {xs : List α} (L : Lst enc e n0 h s xs) (c : Chg S h h') (hs : ∀ a, s.a = some a → ¬ S a.block) : Lst enc e n0 h' s xs := by
 obtain ⟨b, sp, h1, h2, h3, h4, h5⟩ := L.st
 exact ⟨L.ne, b, sp, h1, (c.oth b h4 (hs ⟨b, 0, sp⟩ (by rw [h1]))).trans h2, h3, Nat.lt_of_lt_of_le h4 c.nx, h5⟩
theorem Lst.len {α : Type} {enc : α → Value} {e : TypeId} {n0 : Nat} {h : AHeap} {s : Slc} {xs : List α} (L : Lst enc e n0 h s xs) : s.len = xs.length := by
 obtain ⟨b, sp, h1, _⟩ := L.st
 rw [h1]
theorem Lst.app {α : Type} {enc : α → Value} {e : TypeId} {n0 bytes : Nat} {h : AHeap} {s : Slc} {xs : List α} (L : Lst enc e n0 h s xs) (ho : ∀ x, one (enc x) = true) (ys : List α) (hy : ys ≠ []) (hs : 2 * (xs.length + ys.length) * bytes ≤ 281474976710656) (h1 : 1 ≤ bytes) (hn : n0 ≤ h.next) :
  ∃ s' h', appendA 1 bytes e h s (ys.map enc) ys.length = some (s', h') ∧ Lst enc e n0 h' s' (xs ++ ys) ∧ Chg (fun x => n0 ≤ x) h h' := by
 obtain ⟨b, sp, rfl, g2, g3, g4, g5⟩ := L.st
 have l2 : ys.length ≠ 0 := fun q => hy (List.length_eq_zero_iff.1 q)
 have l1 : 0 < xs.length := List.length_pos_iff.2 L.ne
 rcases g5 with rfl | rfl
 ·have hr := rdL_all g2
  rw [List.length_map] at hr
  refine ⟨⟨some ⟨h.next, 0, some 2⟩, (xs ++ ys).length, (xs ++ ys).length⟩, h.new (outB enc e (xs ++ ys)), ?_, ⟨by simp [hy], h.next, _, rfl, by simp, hn, by simp, .inr rfl⟩, Chg.new _ _⟩
  unfold appendA
  rw [if_neg (by simp; omega), if_pos ⟨by simpa using hs, h1⟩]
  simp only [Nat.mul_one, hr]
  simp [outB]
 ·have g : Grown enc e h b (⟨some ⟨b, 0, some 2⟩, xs.length, xs.length⟩ : Slc) xs := ⟨rfl, g2, L.ne⟩
  exact ⟨_, _, g.append ho hy hs h1, ⟨by simp [hy], h.next, _, rfl, by simp, hn, by simp, .inr rfl⟩, Chg.kill_new (.inr g3)⟩
end Gx
namespace Gx
open Go
structure RowW {α : Type} (w : Nat) (enc : α → List Value) (h : AHeap) (s : Slc) (xs : List α) : Prop where
 len : s.len = xs.length
 at' : ∀ (i : Nat) (x : α), xs[i]? = some x → ∃ a c e r fz, s.a = some a ∧ a.block < h.next ∧ h.get a.block = some (.cells c e r fz) ∧ ∀ (j : Nat) (v : Value), (enc x)[j]? = some v → c[a.off + i * w + j]? = some v
section
variable {α : Type} {w : Nat} {enc : α → List Value} {h h' : AHeap} {s : Slc} {xs : List α}
theorem RowW.nil (w : Nat) (enc : α → List Value) (h : AHeap) (a : Option Addr) (cap : Nat) : RowW w enc h ⟨a, 0, cap⟩ [] := ⟨rfl, fun i x hx => by simp at hx⟩
theorem RowW.chg {S : Nat → Prop} (R : RowW w enc h s xs) (c : Chg S h h') (hs : ∀ a, s.a = some a → ¬ S a.block) : RowW w enc h' s xs :=
 ⟨R.len, fun i x hx => by
  obtain ⟨a, cs, e, r, fz, h1, h2, h3, h4⟩ := R.at' i x hx
  exact ⟨a, cs, e, r, fz, h1, Nat.lt_of_lt_of_le h2 c.nx, (c.oth _ h2 (hs a h1)).trans h3, h4⟩⟩
theorem RowW.keeps (R : RowW w enc h s xs) (c : Keeps h h') : RowW w enc h' s xs := R.chg c fun _ _ f => f
theorem RowW.ld (R : RowW w enc h s xs) (hw : ∀ x, (enc x).length = w) (hw0 : 0 < w) {i : Nat} {x : α} (hx : xs[i]? = some x) :
  ∃ q, idxL w s (i : Int) = some q ∧ ldA w q h = some (enc x) ∧ (∀ (j : Nat) (k : IntKind) (n : Int), (enc x)[j]? = some (.int k n) → ldI k ⟨q.block, q.off + j, none⟩ h = some n) ∧ (∀ (j : Nat) (t : ByteArray), (enc x)[j]? = some (.string t) → ldS ⟨q.block, q.off + j, none⟩ h = some t) := by
 obtain ⟨a, c, e, r, fz, h1, h2, h3, h4⟩ := R.at' i x hx
 have hi : i < s.len := by rw [R.len]; exact (List.getElem?_eq_some_iff.1 hx).1
 refine ⟨⟨a.block, a.off + i * w, none⟩, ?_, ?_, fun j k n hj => sldI_at h3 (h4 j _ hj), fun j t hj => ?_⟩
 ·simp only [idxL, h1]
  rw [if_pos (by omega), Int.toNat_natCast]
 ·obtain ⟨m, rfl⟩ : ∃ m, w = m + 1 := ⟨w - 1, by omega⟩
  have hl : (enc x).length = m + 1 := hw x
  obtain ⟨v, hv⟩ := isome (l := enc x) (i := m) (by omega)
  have hlt := (List.getElem?_eq_some_iff.1 (h4 m v hv)).1
  simp only [ldA, AHeap.rdL, h3]
  rw [if_pos (by omega)]
  congr 1
  apply List.ext_getElem?
  intro j
  rw [List.getElem?_take, List.getElem?_drop]
  by_cases hj : j < m + 1
  ·obtain ⟨u, hu⟩ := isome (l := enc x) (i := j) (by omega)
   rw [if_pos hj, hu]; exact h4 j u hu
  ·rw [if_neg hj, List.getElem?_eq_none (by omega)]
 ·simp [ldS, AHeap.rd1, h3, h4 j _ hj, decS]
theorem flatW_length (hw : ∀ x, (enc x).length = w) : ∀ xs : List α, (xs.flatMap enc).length = xs.length * w
 | [] => by simp
 | x :: xs => by rw [List.flatMap_cons, List.length_append, flatW_length hw xs, hw x, List.length_cons, Nat.succ_mul]; omega
theorem flatW_get (hw : ∀ x, (enc x).length = w) : ∀ {xs : List α} {i : Nat} {x : α}, xs[i]? = some x → ∀ (j : Nat) (v : Value), (enc x)[j]? = some v → (xs.flatMap enc)[i * w + j]? = some v
 | [], i, x, h, _, _, _ => by simp at h
 | y :: xs, 0, x, h, j, v, hv => by
  simp at h; subst h
  have hj : j < (enc y).length := (List.getElem?_eq_some_iff.1 hv).1
  rw [List.flatMap_cons, Nat.zero_mul, Nat.zero_add, List.getElem?_append_left hj]; exact hv
 | y :: xs, i + 1, x, h, j, v, hv => by
  have := flatW_get hw (xs := xs) (i := i) (x := x) (by simpa using h) j v hv
  rw [List.flatMap_cons, List.getElem?_append_right (by rw [hw y, Nat.succ_mul]; omega), hw y, show (i + 1) * w + j - w = i * w + j by rw [Nat.succ_mul]; omega]
  exact this
theorem rowW_blk (hw : ∀ x, (enc x).length = w) {b n cap : Nat} {sp : Option Nat} {ys : List α} {e : TypeId} {r : Bool} {fz : Nat} (hb : h.get b = some (.cells (ys.flatMap enc) e r fz)) (hl : b < h.next) (hn : n ≤ ys.length) : RowW w enc h ⟨some ⟨b, 0, sp⟩, n, cap⟩ (ys.take n) :=
 ⟨by rw [List.length_take]; show n = min n ys.length; omega, fun i x hx => by
  rw [List.getElem?_take] at hx
  split at hx
  ·exact ⟨_, _, _, _, _, rfl, hl, hb, fun j v hv => by rw [Nat.zero_add]; exact flatW_get hw hx j v hv⟩
  ·cases hx⟩
end
structure AccW {α : Type} (w : Nat) (enc : α → List Value) (e : TypeId) (base : Nat) (h : AHeap) (s : Slc) (xs : List α) : Prop where
 st : (s = ⟨none, 0, 0⟩ ∧ xs = []) ∨ ∃ b, s = ⟨some ⟨b, 0, some (w + 1)⟩, xs.length, xs.length⟩ ∧ h.get b = some (.cells (xs.flatMap enc) e true 0) ∧ xs ≠ []
 lt : ∀ a, s.a = some a → a.block < h.next ∧ base ≤ a.block
section
variable {α : Type} {w : Nat} {enc : α → List Value} {e : TypeId} {base : Nat} {h h' : AHeap} {s : Slc} {xs : List α}
theorem AccW.nil (w : Nat) (enc : α → List Value) (e : TypeId) (base : Nat) (h : AHeap) : AccW w enc e base h ⟨none, 0, 0⟩ [] := ⟨.inl ⟨rfl, rfl⟩, fun a ha => by cases ha⟩
theorem AccW.chg {S : Nat → Prop} (A : AccW w enc e base h s xs) (c : Chg S h h') (hs : ∀ a, s.a = some a → ¬ S a.block) : AccW w enc e base h' s xs := by
 refine ⟨A.st.imp id ?_, fun a ha => ⟨Nat.lt_of_lt_of_le (A.lt a ha).1 c.nx, (A.lt a ha).2⟩⟩
 rintro ⟨b, h1, h2, h3⟩
 have hb := A.lt ⟨b, 0, some (w + 1)⟩ (by rw [h1])
 exact ⟨b, h1, (c.oth b hb.1 (hs ⟨b, 0, some (w + 1)⟩ (by rw [h1]))).trans h2, h3⟩
theorem AccW.keeps (A : AccW w enc e base h s xs) (c : Keeps h h') : AccW w enc e base h' s xs := A.chg c fun _ _ f => f
theorem AccW.row (A : AccW w enc e base h s xs) (hw : ∀ x, (enc x).length = w) : RowW w enc h s xs := by
 rcases A.st with ⟨rfl, rfl⟩ | ⟨b, rfl, h2, h3⟩
 ·exact RowW.nil _ _ _ _ _
 ·have := rowW_blk (cap := xs.length) (sp := some (w + 1)) hw h2 (A.lt ⟨b, 0, some (w + 1)⟩ rfl).1 (Nat.le_refl _)
  rw [List.take_length] at this
  exact this
theorem AccW.take (A : AccW w enc e base h s xs) (hw : ∀ x, (enc x).length = w) {n : Nat} (hn : n ≤ xs.length) (hx : 0 < xs.length) : ∃ t, subL w s none (some (n : Int)) none = some t ∧ RowW w enc h t (xs.take n) ∧ ∀ a, t.a = some a → base ≤ a.block ∧ a.block < h.next := by
 rcases A.st with ⟨_, rfl⟩ | ⟨b, rfl, h2, h3⟩
 ·simp at hx
 ·have hb := A.lt ⟨b, 0, some (w + 1)⟩ rfl
  refine ⟨⟨some ⟨b, 0, some (w + 1)⟩, n, xs.length⟩, ?_, rowW_blk hw h2 hb.1 hn, fun a ha => by cases ha; exact ⟨hb.2, hb.1⟩⟩
  simp only [subL, Option.getD_none, Option.getD_some]
  rw [if_pos (by omega), if_pos (by simp [spOk])]
  simp
theorem AccW.push (A : AccW w enc e base h s xs) (hw : ∀ x, (enc x).length = w) (ho : ∀ x, allOne (enc x) = true) (x : α) {bytes : Nat} (h1 : 1 ≤ bytes) (hs : 2 * (xs.length + 1) * bytes ≤ 281474976710656) (hbase : base ≤ h.next) :
  ∃ s' h', appendA w bytes e (h.new (.cells (enc x) e true 0)) s (enc x) 1 = some (s', h') ∧ AccW w enc e base h' s' (xs ++ [x]) ∧ Chg (ofS s) h h' ∧ ∀ a, s'.a = some a → h.next ≤ a.block := by
 obtain ⟨g1, hg1⟩ : ∃ g1, g1 = h.new (.cells (enc x) e true 0) := ⟨_, rfl⟩
 have k1 : Keeps h g1 := hg1 ▸ Keeps.new h _
 have n1 : g1.next = h.next + 1 := by rw [hg1]; rfl
 rw [← hg1]
 have A1 := A.keeps k1
 rcases A1.st with ⟨rfl, rfl⟩ | ⟨b, rfl, h2, h3⟩
 ·refine ⟨⟨some ⟨g1.next, 0, some (w + 1)⟩, 1, 1⟩, g1.new (.cells (enc x) e true 0), ?_, ⟨.inr ⟨g1.next, rfl, by simp, by simp⟩, ?_⟩, (k1.trans (Keeps.new g1 _)).wk fun _ _ f => f.elim, ?_⟩
  ·simp only [appendA]
   rw [if_neg (by omega), if_pos (by simp at hs ⊢; omega)]
  ·intro a ha; cases ha; simp; omega
  ·intro a ha; cases ha; simp; omega
 ·have hb := A1.lt ⟨b, 0, some (w + 1)⟩ rfl
  have hl := flatW_length hw xs
  have hx : 0 < xs.length := List.length_pos_iff.2 h3
  refine ⟨⟨some ⟨g1.next, 0, some (w + 1)⟩, xs.length + 1, xs.length + 1⟩, (g1.kill b).new (.cells ((xs ++ [x]).flatMap enc) e true 0), ?_, ⟨.inr ⟨g1.next, by simp, by simp, by simp⟩, ?_⟩, Chg.beh (T := (· = b)) (Chg.keeps k1) (Chg.kill_new (.inr rfl)) fun y hy q => ⟨⟨b, 0, some (w + 1)⟩, rfl, q⟩, ?_⟩
  ·simp only [appendA]
   rw [if_neg (by omega), if_pos ⟨hs, h1⟩]
   simp only [h2]
   rw [if_pos ⟨by omega, trivial, by omega, by omega, trivial, trivial, ho x⟩, ← hl, List.take_length, List.flatMap_append]
   simp
  ·intro a ha; cases ha; simp; omega
  ·intro a ha; cases ha; simp; omega
end
end Gx
namespace Gx
open Go
def newK {α : Type} (h : AHeap) (B : ABlk) (f : AHeap → α) : α := f (h.new B)
theorem Wp.new {R : Type} {Q : R → Prop} {h : AHeap} {B : ABlk} {f : AHeap → Option R} (k : ∀ H : AHeap, Keeps h H → H.next = h.next + 1 → H.get h.next = some B → Wp (f H) Q) : Wp (newK h B f) Q :=
 k _ (Keeps.new h B) rfl (by simp)
theorem Chg.got {S : Nat → Prop} {h h' : AHeap} {x : Nat} {B : ABlk} (c : Chg S h h') (hx : x < h.next) (hs : ¬ S x) (g : h.get x = some B) : h'.get x = some B := (c.oth x hx hs).trans g
theorem Keeps.got {h h' : AHeap} {x : Nat} {B : ABlk} (c : Keeps h h') (hx : x < h.next) (g : h.get x = some B) : h'.get x = some B := (c.oth x hx fun f => f).trans g
theorem Wp.st {R : Type} {Q : R → Prop} {h : AHeap} {b o : Nat} {sp : Option Nat} {c : List Value} {e : TypeId} {v : Value} {f : AHeap → Option R} (hb : h.get b = some (.cells c e true 0)) (ho : o < c.length) (hv : one v = true)
  (k : ∀ H : AHeap, Chg (· = b) h H → H.next = h.next → H.get b = some (.cells (c.set o v) e true 0) → Wp (f H) Q) : Wp ((st1 ⟨b, o, sp⟩ v h).bind f) Q :=
 Wp.bnd (st1_of hb ho hv) (k _ (Chg.set (.inr rfl)) rfl (by simp))
theorem Wp.stL {R : Type} {Q : R → Prop} {h : AHeap} {b n : Nat} {sp : Option Nat} {c cs : List Value} {e : TypeId} {f : AHeap → Option R} (hb : h.get b = some (.cells c e true 0)) (hc : c.length = n) (hl : cs.length = n) (ho : allOne cs = true) (hn : n ≠ 0)
  (k : ∀ H : AHeap, Chg (· = b) h H → H.next = h.next → H.get b = some (.cells cs e true 0) → Wp (f H) Q) : Wp ((Gx.stL n ⟨b, 0, sp⟩ cs h).bind f) Q :=
 Wp.bnd (sstL_at hb hc hl ho hn) (k _ (Chg.set (.inr rfl)) rfl (by simp))
theorem Chg.keepsS {S : Nat → Prop} {h h1 h2 : AHeap} (a : Keeps h h1) (c : Chg S h1 h2) (hs : ∀ y, S y → h.next ≤ y) : Keeps h h2 := Chg.beh a c fun y hy q => by have := hs y q; omega
end Gx
namespace Gx
open Go
theorem Wp.newE {R : Type} {Q : R → Prop} {h : AHeap} {B : ABlk} {f : AHeap → Option R} (k : ∀ H : AHeap, H = h.new B → Keeps h H → H.next = h.next + 1 → H.get h.next = some B → Wp (f H) Q) : Wp (newK h B f) Q :=
 k _ rfl (Keeps.new h B) rfl (by simp)
end Gx
namespace Gx
open Go Go.RowKit
section
variable {G : Nat} {P : Program}
theorem Step.belowX {μ : BMap} {h : AHeap} {w w' : World} (s : Sim G μ h w) (b : Below w.heap.size w w') : Step G μ h w μ h w' where
 sim := by
  refine ⟨fun x B hx => ?_, s.inj, s.lt, s.glob, s.gle⟩
  obtain ⟨c, d, z, O, hm, hO, hr⟩ := s.blk x B hx
  exact ⟨c, d, z, O, hm, by rw [b.block c (Array.getElem?_eq_some_iff.1 hO).1]; exact hO, hr⟩
 nx := Nat.le_refl _
 same := fun _ _ => rfl
 os := b.os
 tape := b.tape
 output := b.output
 size := b.size
 old := fun c hc _ => b.block c hc
 img := fun x B p hb hn _ => absurd (s.lt x B hb) (by omega)
 keep := fun x B' hb _ => ⟨B', hb, id⟩
theorem fnS_calls {g : FuncId} {fn : Func} {c : Code} {args : List Value} {h : AHeap} {v : Value} (hf : P.funcs[g]? = some fn) (hb : fn.body = some c) (hname : (fn.name == "runtime.NumGoroutine") = false)
  (k : ∀ (μ : BMap) (w : World) (args' : List Value), Sim G μ h w → VRs μ args args' → ∃ v', VR μ v v' ∧ Calls P g ⟨args'⟩ w fun e w' => e = .returned v' ∧ Below w.heap.size w w') : FnS P G g args h v h := by
 refine ⟨Nat.le_refl _, fun μ w args' s _ hv o a next Q hnext => ?_⟩
 have hcall : (callFunc g ⟨args'⟩).run P w = .ok (.enter g ⟨args'⟩) w := by
  have hne : ¬ fn.name = "runtime.NumGoroutine" := by simpa using hname
  simp [callFunc, hf, hne, hb]
 rw [hcall, Oper.upon_enter]
 obtain ⟨v', hv', hc⟩ := k μ w args' s hv
 refine hc.mono ?_
 rintro e w' ⟨rfl, hbw⟩
 exact hnext v' w' ⟨μ, hv', Step.belowX s hbw⟩
end
end Gx
namespace Gx
open Go Go.RowKit
section
variable {G : Nat} {P : Program}
end
end Gx
namespace Gx
open Go Go.RowKit
open Go.Proofs (encStr)
section
variable {G : Nat} {P : Program}
theorem fnS_callsN {g : FuncId} {fn : Func} {c : Code} {args : List Value} {h h' : AHeap} {v : Value} (hf : P.funcs[g]? = some fn) (hb : fn.body = some c) (hname : (fn.name == "runtime.NumGoroutine") = false) (hn : h.next ≤ h'.next)
  (k : ∀ (μ : BMap) (w : World) (args' : List Value), Sim G μ h w → Zed μ h.next h'.next → VRs μ args args' → Calls P g ⟨args'⟩ w fun e w' => ∃ μ' v', e = .returned v' ∧ VR μ' v v' ∧ Step G μ h w μ' h' w') : FnS P G g args h v h' := by
 refine ⟨hn, fun μ w args' s z hv o a next Q hnext => ?_⟩
 have hcall : (callFunc g ⟨args'⟩).run P w = .ok (.enter g ⟨args'⟩) w := by
  have hne : ¬ fn.name = "runtime.NumGoroutine" := by simpa using hname
  simp [callFunc, hf, hne, hb]
 rw [hcall, Oper.upon_enter]
 refine (k μ w args' s z hv).mono ?_
 rintro e w' ⟨μ', v', rfl, h1, h2⟩
 exact hnext v' w' ⟨μ', h1, h2⟩
def srt (ks : List ByteArray) : List Value := ((ks.map (·.data.toList)).mergeSort leB).map encStr
structure SortedC (P : Program) (f gk : FuncId) (e : TypeId) : Prop where
 cS : ∀ (bx b : Nat) (es : Array MapEntry) (clock : Nat) (ks : List ByteArray) (w : World), w.cell? ⟨bx, 0, none⟩ = some (.map (some b)) → w.heap[b]? = some (.map es clock) → es.toList.map (·.key) = ks.map Value.string →
  (∀ s ∈ ks, s.size ≤ 9223372036854775807) → MapKept.Stamped es clock → ks.length * 16 ≤ 140737488355328 →
  Calls P f #[.func (.func gk) #[] #[.pointer (some ⟨bx, 0, none⟩)]] w fun x w' => ∃ v, x = .returned v ∧ w'.ownsRow w.heap.size e 1 v ks.length (srt ks) ∧ (v = .slice none 0 0 ↔ ks = []) ∧ Below w.heap.size w w'
 cN : ∀ (bx : Nat) (w : World), w.cell? ⟨bx, 0, none⟩ = some (.map none) →
  Calls P f #[.func (.func gk) #[] #[.pointer (some ⟨bx, 0, none⟩)]] w fun x w' => x = .returned (.slice none 0 0) ∧ Below w.heap.size w w'
end
end Gx
namespace Gx
open Go Go.RowKit
section
variable {G : Nat} {P : Program}
def pow10V : List Value := Lib.pow10Tab.map fun z => .int .u64 z
def tabP (g : Nat) (h : AHeap) : Prop := ∃ e, h.get g = some (.cells pow10V e false 1)
open Classical in
noncomputable def itoaG (g : Nat) (n : Int) (h : AHeap) : Option ByteArray := if tabP g h ∧ -9223372036854775808 ≤ n ∧ n ≤ 9223372036854775807 then some ⟨(Lib.itoa n).toArray⟩ else none
noncomputable def eItoaG (id : FuncId) (g : Nat) : Ent := ⟨id, fun _ args h κ => match args with
 | [.int k c] => bif decide (k = .i64) then (itoaG g c h).bind fun t => κ (.string t) h else none
 | _ => none⟩
theorem itoaG_ok {f : FuncId} {fn : Func} {c : Code} {g : Nat} {name : String} (hf : P.funcs[f]? = some fn) (hb : fn.body = some c) (hname : (fn.name == "runtime.NumGoroutine") = false) (hg : P.globalNamed name = some g) (hlt : g < G)
  (hc : ∀ (n : Int) (w : World), -9223372036854775808 ≤ n → n ≤ 9223372036854775807 → Lib.TabIs P w name .u64 Lib.pow10Tab → Calls P f #[.int .i64 n] w fun e w' => e = .returned (.string ⟨(Lib.itoa n).toArray⟩) ∧ ∃ k os, w' = Sort.grow (w.drewN k) os) : EntOk P G (eItoaG f g) := by
 intro R args h κ r hr
 simp only [eItoaG] at hr
 split at hr
 ·rename_i k n
  cases hk : decide (k = IntKind.i64) with
  | false => rw [hk] at hr; cases hr
  | true =>
   rw [hk, cond_true] at hr
   have hk := of_decide_eq_true hk
   subst hk
   simp only [Option.bind_eq_some_iff] at hr
   obtain ⟨t, ht, hr⟩ := hr
   unfold itoaG at ht
   split at ht
   ·rename_i hq
    cases ht
    obtain ⟨⟨e, htab⟩, hq1, hq2⟩ := hq
    refine ⟨_, h, hr, fnS_calls hf hb hname fun μ w args' s' hv => ⟨_, .str _, ?_⟩⟩
    obtain ⟨v1, rfl, h1⟩ := hv.one_inv
    have e1 := vr_int h1
    subst e1
    obtain ⟨z, hz⟩ := s'.glob g hlt
    have hw := s'.whole htab (by decide) hz
    obtain ⟨c', lo, hi, hO, hsz, hcs, _⟩ := s'.obj htab hz
    have hT : Lib.TabIs P w name .u64 Lib.pow10Tab := by
     unfold Lib.TabIs World.var?
     rw [hg]
     simp only [Option.bind_some, hO]
     congr 1
     apply Array.ext'
     apply List.ext_getElem?
     intro i
     have hl : c'.toList.length = pow10V.length := by rw [Array.length_toList, hsz, hw, Nat.zero_add]
     by_cases hi : i < pow10V.length
     ·obtain ⟨v', q1, q2⟩ := hcs i _ (List.getElem?_eq_getElem hi)
      rw [Nat.zero_add] at q1
      have e2 : pow10V[i]? = some pow10V[i] := List.getElem?_eq_getElem hi
      have e3 : c'.toList[i]? = some v' := by rw [Array.getElem?_toList]; exact q1
      have e4 : pow10V[i] = .int .u64 (Lib.pow10Tab[i]'(by simpa [pow10V] using hi)) := by simp [pow10V]
      rw [e4] at q2
      have e5 := vr_int q2
      rw [e3, e5, ← e4, ← e2]; rfl
     ·rw [List.getElem?_eq_none (by omega)]
      exact (List.getElem?_eq_none (by simpa [pow10V] using hi)).symm
    refine (hc n w hq1 hq2 hT).mono ?_
    rintro e w' ⟨rfl, k, os, rfl⟩
    refine ⟨rfl, rfl, rfl, rfl, ?_, fun i hi => ?_⟩
    ·show w.heap.size ≤ (w.heap ++ os).size
     simp
    ·show (w.heap ++ os)[i]? = _
     exact Array.getElem?_append_left hi
   ·cases ht
 ·cases hr
def ifcP (g : Nat) (h : AHeap) : Prop := ∃ t v, h.rd1 g 0 = some (.iface t v)
open Classical in
noncomputable def atoiA (tN : TypeId) (g : Nat) (s : ByteArray) (h : AHeap) : Option ((Int × Value) × AHeap) :=
 if s.size ≤ 18 then (match Lib.atoi s.data.toList with
  | some v => some ((v, .nilIface), h)
  | none => if ifcP g h then some ((0, .iface tN (.pointer (some ⟨h.next, 0, none⟩))), h.resv 1) else none) else none
noncomputable def eAtoi (id : FuncId) (tN : TypeId) (g : Nat) : Ent := ⟨id, fun _ args h κ => match args with
 | [.string s] => (atoiA tN g s h).bind fun r => κ (.tuple #[.int .i64 r.1.1, r.1.2]) r.2
 | _ => none⟩
theorem vrs_two {μ : BMap} {a b a' b' : Value} (h1 : VR μ a a') (h2 : VR μ b b') : VR μ (.tuple #[a, b]) (.tuple #[a', b']) :=
 .tuple rfl fun i v v' hv hv' => by
  match i with
  | 0 => simp at hv hv'; subst hv; subst hv'; exact h1
  | 1 => simp at hv hv'; subst hv; subst hv'; exact h2
  | i + 2 => simp at hv
theorem atoi_ok {f : FuncId} {fn : Func} {c : Code} {tN : TypeId} {g : Nat} (hf : P.funcs[f]? = some fn) (hb : fn.body = some c) (hname : (fn.name == "runtime.NumGoroutine") = false) (hlt : g < G)
  (hc1 : ∀ (s : ByteArray) (n : Int) (w : World), s.size ≤ 18 → Lib.atoi s.data.toList = some n → Calls P f #[.string s] w fun e w' => e = .returned (.tuple #[.int .i64 n, .nilIface]) ∧ Below w.heap.size w w')
  (hc2 : ∀ (s : ByteArray) (ev : Value) (w : World), s.size ≤ 18 → Lib.atoi s.data.toList = none → w.cell? ⟨g, 0, none⟩ = some ev → (ev = .nilIface ∨ ∃ te pe, ev = .iface te pe) → Calls P f #[.string s] w fun e w' => ∃ N, e = .returned (.tuple #[.int .i64 0, .iface tN (.pointer (some ⟨N, 0, none⟩))]) ∧ w.heap.size ≤ N ∧ Below w.heap.size w w') : EntOk P G (eAtoi f tN g) := by
 intro R args h κ r hr
 simp only [eAtoi] at hr
 split at hr
 ·rename_i s
  simp only [Option.bind_eq_some_iff] at hr
  obtain ⟨⟨⟨v, ev⟩, h'⟩, ht, hr⟩ := hr
  unfold atoiA at ht
  split at ht
  ·rename_i hsz
   split at ht
   ·rename_i n hn
    cases ht
    refine ⟨_, h, hr, fnS_calls hf hb hname fun μ w args' s' hv => ⟨_, vrs_two (.int _ _) .nilIface, ?_⟩⟩
    obtain ⟨v1, rfl, h1⟩ := hv.one_inv
    have e1 : v1 = .string s := by cases h1; rfl
    subst e1
    exact hc1 s _ w hsz hn
   ·rename_i hn
    split at ht
    ·rename_i hi
     obtain ⟨ti, vi, hi⟩ := hi
     cases ht
     refine ⟨_, _, hr, fnS_callsN hf hb hname (Nat.le_succ _) fun μ w args' s' zn hv => ?_⟩
     obtain ⟨v1, rfl, h1⟩ := hv.one_inv
     have e1 : v1 = .string s := by cases h1; rfl
     subst e1
     obtain ⟨z, hz⟩ := s'.glob g hlt
     obtain ⟨ec, q1, q2⟩ := s'.cell hz hi
     have hev : ∃ te pe, ec = .iface te pe := by cases q2; exact ⟨_, _, rfl⟩
     refine (hc2 s ec w hsz hn (by simpa using q1) (.inr hev)).mono ?_
     rintro e w' ⟨N, rfl, hN, hb⟩
     have z0 : μ h.next = none := zn h.next (Nat.le_refl _) (Nat.lt_succ_self _)
     refine ⟨μ.put h.next (N, 0, 0), _, rfl, vrs_two (.int _ _) (.iface (.ptr (o := 0) (c := N) (d := 0) (z := 0) (by simp [BMap.put]))), ?_⟩
     have t1 := Step.belowX s' hb
     have hle := BMap.put_le (p := (N, 0, 0)) z0
     refine ⟨⟨fun b B hB => ?_, fun b1 b2 B1 B2 p1 p2 g1 g2 hne hrw m1 m2 => ?_, fun b B hB => Nat.lt_succ_of_lt (s'.lt b B hB), fun gg hgg => ?_, Nat.le_succ_of_le s'.gle⟩, Nat.le_succ _, fun b hb => ?_, hb.os, hb.tape, hb.output, hb.size, fun cc hcc _ => hb.block cc hcc, fun b B p hB hge _ => ?_, fun b B' hB _ => ⟨B', hB, id⟩⟩
     ·obtain ⟨cc, d, zz, O, m1, m2, m3⟩ := t1.sim.blk b B hB
      exact ⟨cc, d, zz, O, hle _ _ m1, m2, m3.mono hle⟩
     ·have l1 : b1 ≠ h.next := fun e => by have := s'.lt b1 B1 g1; omega
      have l2 : b2 ≠ h.next := fun e => by have := s'.lt b2 B2 g2; omega
      simp only [BMap.put, l1, l2, if_false] at m1 m2
      exact s'.inj b1 b2 B1 B2 p1 p2 g1 g2 hne hrw m1 m2
     ·obtain ⟨zz, hzz⟩ := s'.glob gg hgg
      exact ⟨zz, hle _ _ hzz⟩
     ·have : b ≠ h.next := fun e => hb ⟨by omega, by show b < h.next + 1; omega⟩
      simp [BMap.put, this]
     ·have := s'.lt b B hB
      omega
    ·cases ht
  ·cases ht
 ·cases hr
end
end Gx
namespace Gx
open Go Go.RowKit
section
variable {G : Nat} {P : Program}
theorem FnS.calls {fn : Func} {g : FuncId} {args : List Value} {h h' : AHeap} {v : Value} (hF : FnS P G g args h v h') (hf : P.funcs[g]? = some fn) (hb : fn.body.isSome = true) (hname : (fn.name == "runtime.NumGoroutine") = false)
  {μ : BMap} {w : World} {args' : List Value} (s : Sim G μ h w) (z : Zed μ h.next h'.next) (hv : VRs μ args args') :
  Calls P g ⟨args'⟩ w fun e w' => ∃ v' μ', e = .returned v' ∧ VR μ' v v' ∧ Step G μ h w μ' h' w' := by
 have hcall : (callFunc g ⟨args'⟩).run P w = .ok (.enter g ⟨args'⟩) w := by
  have hne : ¬ fn.name = "runtime.NumGoroutine" := by simpa using hname
  obtain ⟨c, hc⟩ := Option.isSome_iff_exists.1 hb
  simp [callFunc, hf, hne, hc]
 have := hF.2 μ w args' s z hv ⟨some 0, .move (.tmp 0), 0, "", #[], none⟩ { tmps := #[undef], defers := [] }
  (fun a' w' => ∃ v' μ', a'.tmps = #[v'] ∧ VR μ' v v' ∧ Step G μ h w μ' h' w') (fun _ _ _ => False) (fun v' w' ⟨μ', h1, h2⟩ => ⟨v', μ', by simp [Act.put], h1, h2⟩)
 rw [hcall, Oper.upon_enter] at this
 refine Calls.mono this fun e w' he => ?_
 cases e with
 | returned u =>
  obtain ⟨v', μ', e, h1, h2⟩ := he
  simp [Act.put] at e
  subst e
  exact ⟨_, μ', rfl, h1, h2⟩
 | panicked ch => exact he.elim
 | outgrown => obtain ⟨_, _, hh⟩ := he; exact hh.elim
theorem Step.below {μ μ' : BMap} {h h' : AHeap} {w w' : World} (st : Step G μ h w μ' h' w') (hro : ∀ b B, h.get b = some B → B.isRW = false) : Below w.heap.size w w' :=
 ⟨st.os, st.tape, st.output, st.size, fun k hk => st.old k hk fun b B p hb hrw => by rw [hro b B hb] at hrw; cases hrw⟩
def h0 : AHeap := ⟨0, fun _ => none⟩
theorem sim0 (w : World) : Sim 0 (fun _ => none) h0 w :=
 ⟨(fun _ _ h => nomatch h), (fun _ _ _ _ _ _ h => nomatch h), (fun _ _ h => nomatch h), (fun g h => absurd h (Nat.not_lt_zero g)), Nat.le_refl _⟩
theorem law_calls {fn : Func} {g : FuncId} {e : Ent} (he : EntOk P G e) (hg : e.id = g) (hf : P.funcs[g]? = some fn) (hb : fn.body.isSome = true) (hname : (fn.name == "runtime.NumGoroutine") = false) {args : List Value} {h : AHeap}
  (hrun : e.run Bool args h (fun v _ => match v with | .bool b => some b | _ => none) = some true) {μ : BMap} {w : World} {args' : List Value} (s : Sim G μ h w) (z : ∀ b, h.next ≤ b → μ b = none) (hv : VRs μ args args') (hro : ∀ b B, h.get b = some B → B.isRW = false) :
  Calls P g ⟨args'⟩ w fun e w' => e = .returned (.bool true) ∧ Below w.heap.size w w' := by
 obtain ⟨v, h', hk, hF⟩ := he Bool args h _ true hrun
 subst hg
 refine Calls.mono (hF.calls hf hb hname s (fun b hb _ => z b hb) hv) ?_
 rintro e w' ⟨v', μ', rfl, h1, h2⟩
 refine ⟨?_, h2.below hro⟩
 split at hk
 ·cases hk; rw [vr_bool h1]
 ·cases hk
end
end Gx
namespace Gx
open Go Go.RowKit Go.ChangeShapes Go.WideShapes
structure Start (w : World) (μ : BMap) (h : AHeap) (G : Nat := 0) : Prop where
 sim : Sim G μ h w
 z : ∀ b, h.next ≤ b → μ b = none
 ro : ∀ b B, h.get b = some B → B.isRW = false
theorem Start.zero (w : World) : Start w (fun _ => none) h0 := ⟨sim0 w, fun _ _ => rfl, fun b B hb => by cases hb⟩
theorem put_self (μ : BMap) (b : Nat) (p : Nat × Nat × Nat) : (μ.put b p) b = some p := by simp [BMap.put]
theorem Start.add {G : Nat} {w : World} {μ : BMap} {h : AHeap} (S : Start w μ h G) {c d : Nat} {arr : Array Value} {e : TypeId} {fz : Nat × Nat} (hO : w.heap[c]? = some (.cells arr e fz)) {cs : List Value}
  (hc : ∀ (i : Nat) v, cs[i]? = some v → ∃ v', arr[d + i]? = some v' ∧ VR μ v v') : Start w (μ.put h.next (c, d, arr.size)) (h.new (.cells cs e false 0)) G := by
 have le := BMap.put_le (p := (c, d, arr.size)) (S.z h.next (Nat.le_refl _))
 refine ⟨⟨fun b B hb => ?_, fun b₁ b₂ B₁ B₂ p₁ p₂ h1 h2 _ hr _ _ => ?_, fun b B hb => ?_, fun g hg => let ⟨z, hz⟩ := S.sim.glob g hg; ⟨z, le _ _ hz⟩, Nat.le_trans S.sim.gle (by simp)⟩, fun b hb => ?_, fun b B hb => ?_⟩
 ·rw [AHeap.get_new] at hb
  split at hb
  ·rename_i e'; subst e'; cases hb
   exact ⟨c, d, arr.size, _, put_self _ _ _, hO, rfl, rfl, fun i v hv => let ⟨v', h1, h2⟩ := hc i v hv; ⟨v', h1, h2.mono le⟩, fun hf => (by cases hf), fun _ q => absurd rfl q⟩
  ·obtain ⟨c', d', z', O', hm, hO', hr⟩ := S.sim.blk b B hb
   exact ⟨c', d', z', O', le _ _ hm, hO', hr.mono le⟩
 ·rw [AHeap.get_new] at h1
  split at h1
  ·cases h1; cases hr
  ·rw [S.ro b₁ B₁ h1] at hr; cases hr
 ·rw [AHeap.get_new] at hb
  split at hb
  ·rename_i e'; subst e'; simp
  ·have := S.sim.lt b B hb; simp; omega
 ·simp only [AHeap.next_new] at hb
  have : b ≠ h.next := by omega
  simp only [BMap.put, this, if_false]
  exact S.z b (by omega)
 ·rw [AHeap.get_new] at hb
  split at hb
  ·cases hb; rfl
  ·exact S.ro b B hb
def AHeap.hole (h : AHeap) : AHeap := ⟨h.next + 1, h.get⟩
theorem Start.hole {G : Nat} {w : World} {μ : BMap} {h : AHeap} (S : Start w μ h G) (p : Nat × Nat × Nat) : Start w (μ.put h.next p) h.hole G := by
 have le := BMap.put_le (p := p) (S.z h.next (Nat.le_refl _))
 refine ⟨⟨fun b B hb => ?_, fun b₁ b₂ B₁ B₂ p₁ p₂ h1 h2 _ hr _ _ => ?_, fun b B hb => ?_, fun g hg => let ⟨z, hz⟩ := S.sim.glob g hg; ⟨z, le _ _ hz⟩, Nat.le_trans S.sim.gle (Nat.le_succ _)⟩, fun b hb => ?_, fun b B hb => S.ro b B hb⟩
 ·obtain ⟨c', d', z', O', hm, hO', hr⟩ := S.sim.blk b B hb
  exact ⟨c', d', z', O', le _ _ hm, hO', hr.mono le⟩
 ·rw [S.ro b₁ B₁ h1] at hr; cases hr
 ·have := S.sim.lt b B hb
  show b < h.next + 1
  omega
 ·have hb : h.next + 1 ≤ b := hb
  have : b ≠ h.next := by omega
  simp only [BMap.put, this, if_false]
  exact S.z b (by omega)
theorem Keeps.hole (h : AHeap) : Keeps h h.hole := ⟨Nat.le_succ _, fun _ _ _ => rfl⟩
structure More (w : World) (μ : BMap) (h : AHeap) (μ' : BMap) (h' : AHeap) (G : Nat := 0) : Prop where
 st : Start w μ' h' G
 le : BLe μ μ'
 kp : Keeps h h'
theorem Start.row {G : Nat} {α : Type} {enc : α → Value} (pl : ∀ x, plainV (enc x) = true) {w : World} {μ : BMap} {h : AHeap} (S : Start w μ h G) {a : Addr} {len cap : Nat} {zs : List α} (hz : zs.length = cap) (hl : len ≤ cap)
  (hc : ∀ (i : Nat) x, zs[i]? = some x → w.cell? (a.add i) = some (enc x)) :
  ∃ μ' h' s, More w μ h μ' h' G ∧ VR μ' (.slice s.a s.len s.cap) (.slice (some a) len cap) ∧ Row enc h' s (zs.take len) ∧ ∀ b, s.a = some b → b.block < h'.next ∧ h.next ≤ b.block := by
 by_cases h0 : cap = 0
 ·obtain rfl : len = 0 := by omega
  have hzn : zs = [] := List.length_eq_zero_iff.1 (hz.trans h0)
  refine ⟨_, h.hole, ⟨some ⟨h.next, 0, none⟩, 0, 0⟩, ⟨S.hole (0, 0, 0), BMap.put_le (S.z _ (Nat.le_refl _)), .hole h⟩, ?_, ?_, ?_⟩
  ·subst h0; exact .empty fun _ => rfl
  ·rw [hzn]; exact Row.nil _ _ _ _
  ·intro b hb; cases hb; exact ⟨Nat.lt_succ_self _, Nat.le_refl _⟩
 ·obtain ⟨x0, hx0⟩ := isome (l := zs) (i := 0) (by omega)
  have c0 := hc 0 x0 hx0
  obtain ⟨b, off, sp⟩ := a
  have hsp : sp = none := by simpa [Addr.add] using World.cell?_spot c0
  subst hsp
  have cell : ∀ (i : Nat) x, zs[i]? = some x → w.cell? ⟨b, off + i, none⟩ = some (enc x) := fun i x hx => by rw [← add_plain]; exact hc i x hx
  obtain ⟨arr, e, fz, hO⟩ : ∃ arr e fz, w.heap[b]? = some (.cells arr e fz) := by
   have := cell 0 x0 hx0
   unfold World.cell? at this
   split at this
   ·rename_i c e fz hh; exact ⟨c, e, fz, hh⟩
   ·cases this
  have arrs : ∀ (i : Nat) x, zs[i]? = some x → arr[off + i]? = some (enc x) := fun i x hx => by
   have := cell i x hx
   unfold World.cell? at this
   rw [hO] at this
   simpa using this
  have A := S.add (d := off) (cs := zs.map enc) hO (fun i v hv => by
   rw [List.getElem?_map] at hv
   cases hx : zs[i]? with
   | none => rw [hx] at hv; cases hv
   | some x => rw [hx] at hv; cases hv; exact ⟨_, arrs i x hx, .of_plain (pl x)⟩)
  refine ⟨_, _, ⟨some ⟨h.next, 0, none⟩, len, cap⟩, ⟨A, BMap.put_le (S.z _ (Nat.le_refl _)), Keeps.new h _⟩, ?_, ?_, ?_⟩
  ·exact .slice (put_self _ _ _) rfl
  ·have := Row.of_block (enc := enc) (h := h.new (.cells (zs.map enc) e false 0)) (xs := zs.take len) (b := h.next) (o := 0) (sp := none) (cap := cap) (c := zs.map enc) (e := e) (r := false) (fz := 0) (by simp) (by simp) (fun i x hx => by
    rw [Nat.zero_add, List.getElem?_map]
    rw [List.getElem?_take] at hx
    split at hx
    ·rw [hx]; rfl
    ·cases hx)
   rw [List.length_take, hz, Nat.min_eq_left hl] at this
   exact this
  ·intro b hb; cases hb; simp
section
variable {H : Type} {enc : TypeId × Value → H} {P : Program} {w : World} {r : Reach} {base : Nat} {t e : TypeId} {v : Value} {d : DataW H} {ps : List MemPlace} {μ : BMap} {h : AHeap}
theorem trodAll_after (hl : laidOutB P = true) {W' : World} (hb : Below w.heap.size w W') : ∀ {ts : List TypeId} {vs : List Value} {ds : List (DataW H)} {ps : List MemPlace}, (∀ t ∈ ts, P.readableRec t = true ∧ t < P.types.size) →
  DataW.TrodAll enc P w 0 (fun _ => true) true ts vs ds ps → DataW.TrodAll enc P W' 0 (fun b => decide (b < w.heap.size)) true ts vs ds ps
 | [], [], [], ps, _, h => h
 | t :: ts, v :: vs, d :: ds, ps, hr, h => by
  have hlt := DataW.TrodAll.lt h
  obtain ⟨p, q, h1, h2, rfl⟩ := h
  exact ⟨p, q, Below.trod hl (hr t (by simp)).1 (hr t (by simp)).2 h1 hb (fun x hx => hlt x (by simp [hx])), trodAll_after hl hb (fun t ht => hr t (by simp [ht])) h2, rfl⟩
 | [], [], _ :: _, _, _, h => nomatch h
 | [], _ :: _, [], _, _, h => nomatch h
 | [], _ :: _, _ :: _, _, _, h => nomatch h
 | _ :: _, [], [], _, _, h => nomatch h
 | _ :: _, [], _ :: _, _, _, h => nomatch h
 | _ :: _, _ :: _, [], _, _, h => nomatch h
end
end Gx
namespace Gx
open Go Go.RowKit Go.ChangeShapes Go.WideShapes
section
variable {H : Type} {enc : TypeId × Value → H} {P : Program} {w : World} {r : Reach} {base : Nat} {t e : TypeId} {v : Value} {d : DataW H} {ps : List MemPlace} {μ : BMap} {h : AHeap}
end
end Gx
namespace Gx
open Go Go.RowKit Go.ChangeShapes Go.WideShapes
section
variable {H : Type} {enc : TypeId × Value → H} {P : Program} {w : World} {r : Reach} {base : Nat} {t e : TypeId} {v : Value} {d : DataW H} {ps : List MemPlace} {μ : BMap}
end
end Gx
namespace Gx
open Go Go.RowKit Go.ChangeShapes Go.WideShapes
def eqShape (P : Program) : Nat → List Field → Option (List CTy)
 | _, [] => some []
 | off, f :: fs => if f.name ≠ "_" then (if f.offset = off then match eqLeaf P f.type with
   | some c => match eqShape P (off + 1) fs with
    | some l => some (c :: l)
    | none => none
   | none => none else none) else none
section
variable {H : Type} {enc : TypeId × Value → H} {P : Program} {w : World} {r : Reach} {base : Nat} {t e : TypeId} {v : Value} {d : DataW H} {ps : List MemPlace}
theorem eqShape_leafs : ∀ {fs : List Field} {off : Nat} {ts : List CTy}, eqShape P off fs = some ts → ∀ c ∈ ts, isLeaf c = true
 | [], _, _, h => by simp only [eqShape, Option.some.injEq] at h; subst h; intro c hc; cases hc
 | f :: fs, off, ts, h => by
  simp only [eqShape] at h
  split at h
  ·split at h
   ·split at h
    ·rename_i c hc
     split at h
     ·rename_i l hl
      cases h
      intro c' hc'
      rcases List.mem_cons.1 hc' with e | hc'
      ·subst e
       unfold eqLeaf at hc
       split at hc <;> cases hc <;> rfl
      ·exact eqShape_leafs hl c' hc'
     ·cases h
    ·cases h
   ·cases h
  ·cases h
theorem leaf_trod {c : CTy} (h : eqLeaf P t = some c) {n : Nat} {y : DataW H × List MemPlace} (hd : DataW.trod enc P w 0 (fun _ => true) true n t [v] = some y) : ∃ x, c.dec v = some x := by
 unfold eqLeaf at h
 split at h
 ·rename_i k hk
  cases h
  obtain ⟨m, hm, _⟩ := DataW.trod_int hk hd
  simp at hm; subst hm
  exact ⟨m, by simp [CTy.dec, decI]⟩
 ·rename_i hk
  cases h
  obtain ⟨m, hm, _⟩ := DataW.trod_bool hk hd
  simp at hm; subst hm
  exact ⟨m, rfl⟩
 ·rename_i hk
  cases h
  obtain ⟨m, hm, _⟩ := DataW.trod_string hk hd
  simp at hm; subst hm
  exact ⟨m, rfl⟩
 ·cases h
theorem decC_mk {t : CTy} {L : List CTy} {v : Value} {l : List Value} {x : t.T} {y : TupC L} (hx : t.dec v = some x) (hy : decC L l = some y) : ∃ z, decC (t :: L) (v :: l) = some z := by
 cases L with
 | nil =>
  cases l with
  | nil => exact ⟨x, hx⟩
  | cons _ _ => simp [decC] at hy
 | cons u L => exact ⟨(x, y), by simp only [decC, hx, hy]⟩
theorem flat_cells : ∀ {fs : List Field} {off : Nat} {ts : List CTy} {l : List Value}, eqShape P off fs = some ts → l.length = fs.length →
  (∀ (i : Nat) f c, fs[i]? = some f → l[i]? = some c → ∃ n y, DataW.trod enc P w 0 (fun _ => true) true n f.type [c] = some y) → ∃ x, decC ts l = some x
 | [], _, ts, l, h, hl, _ => by
  simp only [eqShape, Option.some.injEq] at h; subst h
  have : l = [] := List.length_eq_zero_iff.1 hl
  subst this
  exact ⟨(), rfl⟩
 | f :: fs, off, ts, l, h, hl, hd => by
  simp only [eqShape] at h
  split at h
  ·split at h
   ·split at h
    ·rename_i c hc
     split at h
     ·rename_i L hL
      cases h
      cases l with
      | nil => simp at hl
      | cons v l =>
       obtain ⟨y, hy⟩ := flat_cells hL (by simpa using hl) fun i f c hf hc => hd (i + 1) f c (by simpa using hf) (by simpa using hc)
       obtain ⟨n, z, hz⟩ := hd 0 f v rfl rfl
       obtain ⟨x, hx⟩ := leaf_trod hc hz
       exact decC_mk hx hy
     ·cases h
    ·cases h
   ·cases h
  ·cases h
theorem eqShape_off : ∀ {fs : List Field} {off : Nat} {ts : List CTy}, eqShape P off fs = some ts → ∀ (i : Nat) f, fs[i]? = some f → f.offset = off + i
 | [], _, _, _, i, f, hf => by simp at hf
 | g :: fs, off, ts, h, i, f, hf => by
  simp only [eqShape] at h
  split at h
  ·split at h
   ·rename_i ho
    split at h
    ·split at h
     ·rename_i L hL
      cases i with
      | zero => simp at hf; subst hf; exact ho
      | succ i => have := eqShape_off hL i f (by simpa using hf); omega
     ·cases h
    ·cases h
   ·cases h
  ·cases h
def onesB (P : Program) (fs : List Field) : Bool := fs.all fun f => Nat.beq (P.cellsOf f.type) 1
theorem open_flat {fs : Array Field} {ts : List CTy} (ht : P.underlying t = some (.struct fs)) (hs : eqShape P 0 fs.toList = some ts) (h3 : P.cellsOf t = fs.toList.length) (h1 : onesB P fs.toList = true)
  (hval : Value.okWide P w r base t v) (hd : DataW.Trod enc P w 0 (fun _ => true) true t v d ps) : ∃ x : TupC ts, v = .agg ⟨encC ts x⟩ ∧ ∀ μ, VR μ (.agg ⟨encC ts x⟩) v := by
 obtain ⟨cs, rfl, hsz⟩ := okWide_struct ht hval
 rw [h3] at hsz
 obtain ⟨fuel, hf⟩ := hd
 obtain ⟨xs, n, rfl, hx, _, hl, hall⟩ := DataW.trod_struct ht hf
 have hlen : cs.toList.length = fs.toList.length := by simpa using hsz
 obtain ⟨x, hdec⟩ := flat_cells (enc := enc) (w := w) hs hlen (fun i f c hfi hci => by
  have hof := eqShape_off hs i f hfi
  have hone : P.cellsOf f.type = 1 := Nat.eq_of_beq_eq_true (List.all_eq_true.1 h1 f (List.mem_of_getElem? hfi))
  have hlt : i < xs.length := by
   have : i < fs.toList.length := (List.getElem?_eq_some_iff.1 hfi).1
   have hl' : xs.length = fs.toList.length := by simpa using hl
   omega
  have := hall i f (by simpa using hfi)
  rw [hof, hone, Nat.zero_add] at this
  refine ⟨n, xs[i], ?_⟩
  have e1 : ((cs.toList.drop i).take 1) = [c] := by
   rw [List.drop_eq_getElem_cons (List.getElem?_eq_some_iff.1 hci).1, List.take_succ_cons, List.take_zero]
   rw [(List.getElem?_eq_some_iff.1 hci).2]
  have e2 : (Value.agg cs).cells.toList = cs.toList := rfl
  rw [e2, e1] at this
  rw [this]; simp [hlt])
 have he := decC_some hdec
 refine ⟨x, by rw [he], fun μ => ?_⟩
 have hleaf := eqShape_leafs hs
 have hv : (⟨encC ts x⟩ : Array Value) = cs := by rw [he]
 rw [hv]
 refine .agg rfl fun i a b ha hb => ?_
 rw [ha] at hb; cases hb
 have : cs.toList[i]? = some a := by simpa using ha
 have key : ∀ {ts : List CTy} {l : List Value} {x : TupC ts}, (∀ c ∈ ts, isLeaf c = true) → decC ts l = some x → ∀ (i : Nat) (a : Value), l[i]? = some a → VR μ a a := by
  intro ts
  induction ts with
  | nil => intro l x _ h i a ha; cases l with
   | nil => simp at ha
   | cons _ _ => simp [decC] at h
  | cons t L ih =>
   intro l x hc h i a ha
   obtain ⟨v, l', rfl, p, y, hp, hy, _⟩ := decC_cons h
   cases i with
   | zero =>
    simp at ha; subst ha
    have := hc t (List.mem_cons_self ..)
    cases t <;> simp [isLeaf] at this <;> simp only [CTy.dec] at hp
    ·rw [decI_some hp]; exact .int _ _
    ·rw [decB_some hp]; exact .bool _
    ·rw [decS_some hp]; exact .str _
   | succ i => exact ih (fun c h => hc c (List.mem_cons_of_mem _ h)) hy i a (by simpa using ha)
 exact key hleaf hdec i a this
end
end Gx
namespace Gx
open Go Go.RowKit Go.ChangeShapes Go.WideShapes
inductive DT where
 | int (k : IntKind) | bool | str | unit
 | pair (a b : DT)
 | list (t : DT)
def DT.w : DT → Nat
 | .int _ => 1
 | .bool => 1
 | .str => 1
 | .unit => 0
 | .pair a b => a.w + b.w
 | .list _ => 1
abbrev DT.V : DT → Type
 | .int _ => Int
 | .bool => Bool
 | .str => ByteArray
 | .unit => Unit
 | .pair a b => a.V × b.V
 | .list t => List t.V
def Rep (h : AHeap) : (t : DT) → t.V → List Value → Prop
 | .int k, x, cs => cs = [.int k x] ∧ (Lit.int k x).wf = true
 | .bool, x, cs => cs = [.bool x]
 | .str, x, cs => cs = [.string x] ∧ x.size ≤ 9223372036854775807
 | .unit, _, cs => cs = []
 | .pair a b, x, cs => ∃ c1 c2, cs = c1 ++ c2 ∧ Rep h a x.1 c1 ∧ Rep h b x.2 c2
 | .list t, xs, cs => ∃ sl : Slc, cs = [.slice sl.a sl.len sl.cap] ∧ sl.len = xs.length ∧ (∀ a, sl.a = some a → a.block < h.next) ∧
   ∀ (i : Nat) (x : t.V), xs[i]? = some x → ∃ a c e r fz cx, sl.a = some a ∧ h.get a.block = some (.cells c e r fz) ∧ cx.length = t.w ∧ (∀ (j : Nat) (v : Value), cx[j]? = some v → c[a.off + i * t.w + j]? = some v) ∧ Rep h t x cx
theorem Rep.len {h : AHeap} : ∀ {t : DT} {x : t.V} {cs : List Value}, Rep h t x cs → cs.length = t.w
 | .int _, _, _, e => by rw [show _ = _ from e.1]; rfl
 | .bool, _, _, e => by rw [show _ = _ from e]; rfl
 | .str, _, _, e => by rw [show _ = _ from e.1]; rfl
 | .unit, _, _, e => by rw [show _ = _ from e]; rfl
 | .pair a b, _, _, ⟨c1, c2, e, h1, h2⟩ => by rw [e, List.length_append, Rep.len h1, Rep.len h2]; rfl
 | .list t, _, _, ⟨sl, e, _⟩ => by rw [e]; rfl
theorem Rep.keeps {h h' : AHeap} (k : Keeps h h') : ∀ {t : DT} {x : t.V} {cs : List Value}, Rep h t x cs → Rep h' t x cs
 | .int _, _, _, e => e
 | .bool, _, _, e => e
 | .str, _, _, e => e
 | .unit, _, _, e => e
 | .pair _ _, _, _, ⟨c1, c2, e, h1, h2⟩ => ⟨c1, c2, e, h1.keeps k, h2.keeps k⟩
 | .list _, _, _, ⟨sl, e, hl, hb, hx⟩ => ⟨sl, e, hl, fun a ha => Nat.lt_of_lt_of_le (hb a ha) k.nx, fun i x hi => by
   obtain ⟨a, c, ee, r, fz, cx, h1, h2, h3, h4, h5⟩ := hx i x hi
   exact ⟨a, c, ee, r, fz, cx, h1, (k.oth _ (hb a h1) fun f => f).trans h2, h3, h4, h5.keeps k⟩⟩
def shFs (P : Program) (g : TypeId → Option DT) : Nat → List Field → Option DT
 | _, [] => some .unit
 | off, f :: fs => if f.offset = off then (match g f.type with
   | some t => if P.cellsOf f.type = t.w then (match shFs P g (off + t.w) fs with
    | some r => some (.pair t r)
    | none => none) else none
   | none => none) else none
def repT (t : DT) : Nat → DT
 | 0 => .unit
 | n + 1 => .pair t (repT t n)
theorem repT_w (t : DT) : ∀ n, (repT t n).w = n * t.w
 | 0 => by simp [repT, DT.w]
 | n + 1 => by rw [repT, DT.w, repT_w t n, Nat.succ_mul, Nat.add_comm]
def shapeOf (P : Program) : Nat → TypeId → Option DT
 | 0, _ => none
 | d + 1, t => match P.underlying t with
  | some (.int k) => some (.int k)
  | some .bool => some .bool
  | some .string => some .str
  | some (.struct fs) => (match shFs P (shapeOf P d) 0 fs.toList with
    | some r => if P.cellsOf t = r.w then some r else none
    | none => none)
  | some (.array n e) => (match shapeOf P d e with
    | some r => if P.cellsOf e = r.w ∧ P.cellsOf t = n * r.w then some (repT r n) else none
    | none => none)
  | some (.slice e) => (match shapeOf P d e with
    | some r => if P.cellsOf e = r.w ∧ 0 < r.w then some (.list r) else none
    | none => none)
  | _ => none
section
variable {H : Type} {enc : TypeId × Value → H} {P : Program} {w : World} {G : Nat}
theorem More.refl {μ : BMap} {h : AHeap} (S : Start w μ h G) : More w μ h μ h G := ⟨S, .refl _, .refl _ _⟩
theorem More.trans {μ μ1 μ2 : BMap} {h h1 h2 : AHeap} (a : More w μ h μ1 h1 G) (b : More w μ1 h1 μ2 h2 G) : More w μ h μ2 h2 G := ⟨b.st, a.le.trans b.le, a.kp.trans b.kp⟩
def Opened (w : World) (G : Nat) (μ : BMap) (h : AHeap) (T : DT) (cs' : List Value) : Prop :=
 ∃ μ' h' v cs, More w μ h μ' h' G ∧ VRs μ' cs cs' ∧ Rep h' T v cs
def OpenAt (enc : TypeId × Value → H) (P : Program) (w : World) (G d : Nat) : Prop :=
 ∀ (t : TypeId) (T : DT), shapeOf P d t = some T → ∀ (μ : BMap) (h : AHeap), Start w μ h G → ∀ (n : Nat) (cs' : List Value) (x : DataW H × List MemPlace), DataW.trod enc P w 0 (fun _ => true) true n t cs' = some x → Opened w G μ h T cs'
theorem Opened.pair {μ : BMap} {h : AHeap} {a b : DT} {l : List Value} {off : Nat} (o1 : Opened w G μ h a ((l.drop off).take a.w))
  (o2 : ∀ μ' h', More w μ h μ' h' G → Opened w G μ' h' b ((l.drop (off + a.w)).take b.w)) : Opened w G μ h (.pair a b) ((l.drop off).take (a.w + b.w)) := by
 obtain ⟨μ1, h1, v1, c1, m1, r1, p1⟩ := o1
 obtain ⟨μ2, h2, v2, c2, m2, r2, p2⟩ := o2 μ1 h1 m1
 refine ⟨μ2, h2, (v1, v2), c1 ++ c2, m1.trans m2, ?_, c1, c2, rfl, p1.keeps m2.kp, p2⟩
 rw [List.take_add, List.drop_drop]
 exact (r1.mono m2.le).append r2
theorem open_fields {d : Nat} (ih : OpenAt enc P w G d) {n : Nat} {l : List Value} : ∀ (fs : List Field) (off : Nat) (T : DT), shFs P (shapeOf P d) off fs = some T →
  (∀ (i : Nat) f, fs[i]? = some f → ∃ x, DataW.trod enc P w 0 (fun _ => true) true n f.type ((l.drop f.offset).take (P.cellsOf f.type)) = some x) → ∀ (μ : BMap) (h : AHeap), Start w μ h G → Opened w G μ h T ((l.drop off).take T.w)
 | [], off, T, hs, _, μ, h, S => by
  simp only [shFs, Option.some.injEq] at hs; subst hs
  exact ⟨μ, h, (), [], .refl S, by simp [DT.w]; exact .nil _, rfl⟩
 | f :: fs, off, T, hs, hx, μ, h, S => by
  simp only [shFs] at hs
  split at hs
  ·rename_i ho
   split at hs
   ·rename_i t ht
    split at hs
    ·rename_i hw
     split at hs
     ·rename_i r hr
      cases hs
      obtain ⟨x, q⟩ := hx 0 f rfl
      rw [ho, hw] at q
      exact .pair (ih _ _ ht μ h S _ _ _ q) fun μ' h' m => open_fields ih fs _ r hr (fun i f' hi => hx (i + 1) f' (by simpa using hi)) μ' h' m.st
     ·cases hs
    ·cases hs
   ·cases hs
  ·cases hs
theorem open_items {d : Nat} (ih : OpenAt enc P w G d) {e : TypeId} {t : DT} (he : shapeOf P d e = some t) {n : Nat} {l : List Value} : ∀ (m k : Nat),
  (∀ i, i < m → ∃ x, DataW.trod enc P w 0 (fun _ => true) true n e ((l.drop ((k + i) * t.w)).take t.w) = some x) → ∀ (μ : BMap) (h : AHeap), Start w μ h G → Opened w G μ h (repT t m) ((l.drop (k * t.w)).take (repT t m).w)
 | 0, k, _, μ, h, S => ⟨μ, h, (), [], .refl S, by simp [repT, DT.w]; exact .nil _, rfl⟩
 | m + 1, k, hx, μ, h, S => by
  obtain ⟨x, q⟩ := hx 0 (by omega)
  rw [Nat.add_zero] at q
  refine .pair (ih _ _ he μ h S _ _ _ q) fun μ' h' mm => ?_
  rw [← Nat.succ_mul]
  exact open_items ih he m (k + 1) (fun i hi => by
   obtain ⟨x, q⟩ := hx (i + 1) (by omega)
   exact ⟨x, by rw [show k + 1 + i = k + (i + 1) by omega]; exact q⟩) μ' h' mm.st
theorem open_seq {T : DT} {ci : Nat → List Value} : ∀ (m : Nat), (∀ i, i < m → ∀ (μ : BMap) (h : AHeap), Start w μ h G → Opened w G μ h T (ci i)) → ∀ (μ : BMap) (h : AHeap), Start w μ h G →
  ∃ μ' h', ∃ (vs : List T.V) (cc : List (List Value)), More w μ h μ' h' G ∧ vs.length = m ∧ cc.length = m ∧ ∀ i, i < m → ∃ v c, vs[i]? = some v ∧ cc[i]? = some c ∧ VRs μ' c (ci i) ∧ Rep h' T v c
 | 0, _, μ, h, S => ⟨μ, h, [], [], .refl S, rfl, rfl, fun i hi => by omega⟩
 | m + 1, hx, μ, h, S => by
  obtain ⟨μ1, h1, vs, cc, m1, l1, l2, a1⟩ := open_seq m (fun i hi => hx i (by omega)) μ h S
  obtain ⟨μ2, h2, v, c, m2, r2, p2⟩ := hx m (by omega) μ1 h1 m1.st
  refine ⟨μ2, h2, vs ++ [v], cc ++ [c], m1.trans m2, by simp [l1], by simp [l2], fun i hi => ?_⟩
  by_cases hm : i < m
  ·obtain ⟨v', c', q1, q2, q3, q4⟩ := a1 i hm
   exact ⟨v', c', by rw [List.getElem?_append_left (by omega)]; exact q1, by rw [List.getElem?_append_left (by omega)]; exact q2, q3.mono m2.le, q4.keeps m2.kp⟩
  ·obtain rfl : i = m := by omega
   exact ⟨v, c, by rw [← l1]; simp, by rw [← l2]; simp, r2, p2⟩
theorem flatten_at {W : Nat} : ∀ {cc : List (List Value)}, (∀ c ∈ cc, c.length = W) → ∀ {i : Nat} {c : List Value}, cc[i]? = some c → ∀ (j : Nat) (v : Value), c[j]? = some v → cc.flatten[i * W + j]? = some v
 | [], _, i, c, h, _, _, _ => by simp at h
 | x :: cc, hw, 0, c, h, j, v, hv => by
  simp at h; subst h
  have hj : j < x.length := (List.getElem?_eq_some_iff.1 hv).1
  rw [List.flatten_cons, Nat.zero_mul, Nat.zero_add, List.getElem?_append_left hj]; exact hv
 | x :: cc, hw, i + 1, c, h, j, v, hv => by
  have := flatten_at (fun c hc => hw c (List.mem_cons_of_mem _ hc)) (cc := cc) (i := i) (c := c) (by simpa using h) j v hv
  have hx := hw x (List.mem_cons_self ..)
  rw [List.flatten_cons, List.getElem?_append_right (by rw [hx, Nat.succ_mul]; omega), hx, show (i + 1) * W + j - W = i * W + j by rw [Nat.succ_mul]; omega]
  exact this
theorem flatten_from {W : Nat} : ∀ {cc : List (List Value)}, (∀ c ∈ cc, c.length = W) → ∀ {k : Nat} {v : Value}, cc.flatten[k]? = some v → ∃ i j c, cc[i]? = some c ∧ c[j]? = some v ∧ k = i * W + j
 | [], _, k, v, h => by simp at h
 | x :: cc, hw, k, v, h => by
  have hx := hw x (List.mem_cons_self ..)
  rw [List.flatten_cons] at h
  by_cases hk : k < x.length
  ·rw [List.getElem?_append_left hk] at h
   exact ⟨0, k, x, rfl, h, by simp⟩
  ·rw [List.getElem?_append_right (by omega)] at h
   obtain ⟨i, j, c, h1, h2, h3⟩ := flatten_from (fun c hc => hw c (List.mem_cons_of_mem _ hc)) h
   exact ⟨i + 1, j, c, by simpa using h1, h2, by rw [Nat.succ_mul]; omega⟩
theorem add_add (a : Addr) (m j : Nat) : (a.add m).add j = a.add (m + j) := by
 simp only [Addr.add]
 by_cases h1 : m = 0
 ·subst h1; simp
 ·by_cases h2 : j = 0
  ·subst h2; simp
  ·simp [h1, h2, Nat.add_assoc]
theorem open_all : ∀ d, OpenAt enc P w G d
 | 0 => fun t T h => by simp [shapeOf] at h
 | d + 1 => by
  intro t T hT μ h S n cs' x hf
  simp only [shapeOf] at hT
  split at hT
  ·rename_i k hk
   cases hT
   obtain ⟨m, rfl, _, hw⟩ := DataW.trod_int hk hf
   exact ⟨μ, h, m, [.int k m], .refl S, .cons (.int _ _) (.nil _), rfl, hw⟩
  ·rename_i hk
   cases hT
   obtain ⟨m, rfl, _⟩ := DataW.trod_bool hk hf
   exact ⟨μ, h, m, [.bool m], .refl S, .cons (.bool _) (.nil _), rfl⟩
  ·rename_i hk
   cases hT
   obtain ⟨m, rfl, _, hw⟩ := DataW.trod_string hk hf
   exact ⟨μ, h, m, [.string m], .refl S, .cons (.str _) (.nil _), rfl, hw⟩
  ·rename_i fs hk
   split at hT
   ·rename_i r hr
    split at hT
    ·rename_i hw
     have hT := Option.some.inj hT
     subst hT
     obtain ⟨xs, m, rfl, _, hl, hxl, hall⟩ := DataW.trod_struct hk hf
     have := open_fields (open_all d) (l := cs') (n := m) fs.toList 0 r hr (fun i f hi => by
      have hi' : fs[i]? = some f := by simpa using hi
      have hlt : i < xs.length := by rw [hxl]; exact (Array.getElem?_eq_some_iff.1 hi').1
      exact ⟨xs[i], by rw [hall i f hi']; simp [hlt]⟩) μ h S
     rw [List.drop_zero, ← hw, ← hl, List.take_length] at this
     exact this
    ·cases hT
   ·cases hT
  ·rename_i m e hk
   split at hT
   ·rename_i r hr
    split at hT
    ·rename_i hw
     cases hT
     obtain ⟨xs, mm, rfl, _, hl, hxl, hall⟩ := DataW.trod_array hk hf
     have := open_items (open_all d) hr (l := cs') (n := mm) m 0 (fun i hi => by
      refine ⟨xs[i]'(by omega), ?_⟩
      have := hall i hi
      rw [hw.1] at this
      rw [Nat.zero_add, this]; simp [hxl, hi]) μ h S
     rw [Nat.zero_mul, List.drop_zero, repT_w, ← hw.2, ← hl, List.take_length] at this
     exact this
    ·cases hT
   ·cases hT
  ·rename_i e hk
   split at hT
   ·rename_i r hr
    split at hT
    ·rename_i hw
     cases hT
     obtain ⟨hwc, hw0⟩ := hw
     rcases DataW.trod_slice hk hf with ⟨rfl, _⟩ | ⟨a, len, cap, elems, rest, m, _, rfl, _, _, hl, _, hlen, hel, hsp, _⟩
     ·exact ⟨μ, h, [], [.slice none 0 0], .refl S, .cons .nilSlice (.nil _), ⟨none, 0, 0⟩, rfl, rfl, (fun a ha => by cases ha), fun i x hx => by simp at hx⟩
     ·obtain ⟨hrl, hrest⟩ := hsp rfl
      have each : ∀ i, i < cap → ∃ ci x, w.cells? 0 (a.add (i * r.w)) r.w = some ci ∧ DataW.trod enc P w 0 (fun _ => true) true m e ci = some x := by
       intro i hi
       have hb : ∃ x, (w.cells? 0 (a.add (i * P.cellsOf e)) (P.cellsOf e)).bind (DataW.trod enc P w 0 (fun _ => true) true m e) = some x := by
        by_cases hil : i < len
        ·exact ⟨elems[i]'(by omega), by rw [hel i hil]; simp [hlen, hil]⟩
        ·have := hrest (i - len) (by omega)
         rw [show len + (i - len) = i by omega] at this
         exact ⟨rest[i - len]'(by omega), by rw [this]; simp⟩
       obtain ⟨x, hx⟩ := hb
       rw [hwc] at hx
       obtain ⟨ci, h1, h2⟩ := Option.bind_eq_some_iff.1 hx
       exact ⟨ci, x, h1, h2⟩
      have each' : ∀ i, i < cap → ((w.cells? 0 (a.add (i * r.w)) r.w).getD []).length = r.w ∧ (∀ j, j < r.w → w.cell? (a.add (i * r.w + j)) = ((w.cells? 0 (a.add (i * r.w)) r.w).getD [])[j]?) := by
       intro i hi
       obtain ⟨ci, x, h1, _⟩ := each i hi
       obtain ⟨_, q1, q2⟩ := World.cells?_some h1
       rw [h1, Option.getD_some]
       refine ⟨q1, fun j hj => ?_⟩
       have := q2 j hj
       rw [← this]
       rw [add_add]
      obtain ⟨μ1, h1, vs, cc, m1, lv, lc, al⟩ := open_seq (T := r) (ci := fun i => (w.cells? 0 (a.add (i * r.w)) r.w).getD []) cap (fun i hi μ h S => by
       obtain ⟨ci, x, q1, q2⟩ := each i hi
       simp only [q1, Option.getD_some]
       exact open_all d _ _ hr μ h S _ _ _ q2) μ h S
      have S1 := m1.st
      by_cases h0 : cap = 0
      ·subst h0
       obtain rfl : len = 0 := by omega
       refine ⟨_, h1.hole, [], [.slice (some ⟨h1.next, 0, none⟩) 0 0], ⟨S1.hole (0, 0, 0), m1.le.trans (BMap.put_le (S1.z _ (Nat.le_refl _))), m1.kp.trans (Keeps.hole h1)⟩, .cons (.empty fun _ => rfl) (.nil _), ⟨some ⟨h1.next, 0, none⟩, 0, 0⟩, rfl, rfl, fun a ha => ?_, fun i x hx => by simp at hx⟩
       cases ha; exact Nat.lt_succ_self _
      ·have c0 : ∃ v, w.cell? (a.add 0) = some v := by
        have := (each' 0 (by omega)).2 0 hw0
        rw [Nat.zero_mul] at this
        have hlt : 0 < ((w.cells? 0 (a.add 0) r.w).getD []).length := by
         have := (each' 0 (by omega)).1
         rw [Nat.zero_mul] at this; omega
        refine ⟨((w.cells? 0 (a.add 0) r.w).getD [])[0], ?_⟩
        rw [this]; simp [hlt]
       obtain ⟨v0, c0⟩ := c0
       obtain ⟨b, off, sp⟩ := a
       have hsp : sp = none := by simpa [Addr.add] using World.cell?_spot c0
       subst hsp
       obtain ⟨arr, ee, fz, hO⟩ : ∃ arr e fz, w.heap[b]? = some (.cells arr e fz) := by
        have := c0
        rw [add_plain] at this
        unfold World.cell? at this
        split at this
        ·rename_i c e fz hh; exact ⟨c, e, fz, hh⟩
        ·cases this
       have hcc : ∀ c ∈ cc, c.length = r.w := by
        intro c hc
        obtain ⟨i, hi⟩ := List.mem_iff_getElem?.1 hc
        have hlt : i < cap := by rw [← lc]; exact (List.getElem?_eq_some_iff.1 hi).1
        obtain ⟨v, c', _, q2, _, q4⟩ := al i hlt
        rw [hi] at q2; cases q2
        exact q4.len
       have A := S1.add (d := off) (cs := cc.flatten) hO (fun k v hv => by
        obtain ⟨i, j, c, q1, q2, rfl⟩ := flatten_from hcc hv
        have hlt : i < cap := by rw [← lc]; exact (List.getElem?_eq_some_iff.1 q1).1
        obtain ⟨v', c', _, r2, r3, _⟩ := al i hlt
        rw [q1] at r2; cases r2
        obtain ⟨u, u1, u2⟩ := r3.get q2
        have hj : j < r.w := by
         have := (List.getElem?_eq_some_iff.1 u1).1
         rw [(each' i hlt).1] at this; exact this
        have hc := (each' i hlt).2 j hj
        rw [u1, add_plain] at hc
        unfold World.cell? at hc
        rw [hO] at hc
        exact ⟨u, by simpa using hc, u2⟩)
       refine ⟨_, _, vs.take len, [.slice (some ⟨h1.next, 0, none⟩) len cap], ⟨A, m1.le.trans (BMap.put_le (S1.z _ (Nat.le_refl _))), m1.kp.trans (Keeps.new h1 _)⟩, .cons (.slice (put_self _ _ _) rfl) (.nil _), ⟨some ⟨h1.next, 0, none⟩, len, cap⟩, rfl, ?_, fun a ha => ?_, fun i x hx => ?_⟩
       ·show len = _; rw [List.length_take]; omega
       ·cases ha; simp
       ·rw [List.getElem?_take] at hx
        split at hx
        ·rename_i hi
         obtain ⟨v, c, q1, q2, _, q4⟩ := al i (by omega)
         rw [hx] at q1; cases q1
         refine ⟨_, cc.flatten, ee, false, 0, c, rfl, by simp, q4.len, fun j u hu => ?_, q4.keeps (Keeps.new h1 _)⟩
         rw [Nat.zero_add]
         exact flatten_at hcc q2 j u hu
        ·cases hx
    ·cases hT
   ·cases hT
  ·cases hT
theorem Start.data {μ : BMap} {h : AHeap} (S : Start w μ h G) {t : TypeId} {T : DT} {d : Nat} (hT : shapeOf P d t = some T) {v : Value} {dd : DataW H} {ps : List MemPlace} (hd : DataW.Trod enc P w 0 (fun _ => true) true t v dd ps) :
  ∃ μ' h' x cs, More w μ h μ' h' G ∧ VRs μ' cs v.cells.toList ∧ Rep h' T x cs := by
 obtain ⟨fuel, hf⟩ := hd
 obtain ⟨μ', h', x, cs, m, r, p⟩ := open_all d t T hT μ h S _ _ _ hf
 exact ⟨μ', h', x, cs, m, r, p⟩
end
theorem Rep.each {h : AHeap} {t : DT} {xs : List t.V} {s : Slc} (r : Rep h (.list t) xs [.slice s.a s.len s.cap]) : ∀ x ∈ xs, ∃ cs, Rep h t x cs := by
 obtain ⟨sl, e, hl, hb, hx⟩ := r
 intro x hx'
 obtain ⟨i, hi⟩ := List.getElem?_of_mem hx'
 obtain ⟨a, c, ee, r, fz, cx, _, _, _, _, h5⟩ := hx i x hi
 exact ⟨cx, h5⟩
theorem Rep.lt {h : AHeap} {t : DT} {xs : List t.V} {s : Slc} (r : Rep h (.list t) xs [.slice s.a s.len s.cap]) : ∀ a, s.a = some a → a.block < h.next := by
 obtain ⟨sl, e, hl, hb, hx⟩ := r
 simp at e
 obtain ⟨e1, e2, e3⟩ := e
 intro a ha
 exact hb a (e1.symm.trans ha)
end Gx
namespace Gx
open Go Go.RowKit Go.ChangeShapes Go.WideShapes
theorem var_block {P : Program} {w : World} {n : String} {g : Nat} {cs : Array Value} (hg : P.globalNamed n = some g) (h : w.var? P n = some cs) : ∃ ty fz, w.heap[g]? = some (.cells cs ty fz) := by
 simp only [World.var?, hg, Option.bind_some] at h
 split at h
 ·rename_i c ty fz hO
  cases h
  exact ⟨ty, fz, hO⟩
 ·cases h
theorem Start.tabErr {P : Program} {w : World} {n0 n1 : String} {g0 g1 G : Nat} (hg0 : P.globalNamed n0 = some g0) (hT : Lib.TabIs P w n0 .u64 Lib.pow10Tab) (hg1 : P.globalNamed n1 = some g1) {tp : TypeId} {a : Addr} {s : ByteArray} (hv : w.var? P n1 = some #[.iface tp (.pointer (some a))]) (hc : w.cell? a = some (.string s)) (l0 : g0 < G) (l1 : g1 < G) (hne : g0 ≠ g1) :
  ∃ μ h, Start w μ h G ∧ tabP g0 h ∧ ifcP g1 h ∧ h.next = G + 1 := by
 obtain ⟨ty0, ⟨lo0, hi0⟩, O0⟩ := var_block hg0 hT
 obtain ⟨ty1, ⟨lo1, hi1⟩, O1⟩ := var_block hg1 hv
 obtain ⟨blk, off, spot⟩ := a
 have hs : spot = none := World.cell?_spot hc
 subst hs
 have e0 : (Lib.pow10Tab.map fun z => Value.int .u64 z) = pow10V := rfl
 rw [e0] at O0
 refine ⟨fun b => if b < G then some (b, 0, if b = g0 then pow10V.length else 1) else if b = G then some (blk, 0, 0) else none,
  ⟨G + 1, fun b => if b = g0 then some (.cells pow10V ty0 false 1) else if b = g1 then some (.cells [.iface tp (.pointer (some ⟨G, off, none⟩))] ty1 false 0) else none⟩, ⟨⟨fun b B hb => ?_, fun b₁ b₂ B₁ B₂ p₁ p₂ h1 h2 _ hr _ _ => ?_, fun b B hb => ?_, fun x hx => ⟨_, if_pos hx⟩, Nat.le_succ _⟩, fun b hb => ?_, fun b B hb => ?_⟩, ⟨ty0, if_pos rfl⟩, ⟨tp, .pointer (some ⟨G, off, none⟩), ?_⟩, rfl⟩
 ·simp only at hb
  split at hb
  ·rename_i e; subst e; cases hb
   refine ⟨b, 0, pow10V.length, _, by simp [l0], O0, rfl, by simp, fun i v hv => ⟨v, ?_, ?_⟩, fun hf => (by cases hf), fun _ _ => by simp⟩
   ·rw [Nat.zero_add]
    simpa using hv
   ·unfold pow10V at hv
    rw [List.getElem?_map] at hv
    cases hx : Lib.pow10Tab[i]? with
    | none => rw [hx] at hv; cases hv
    | some z => rw [hx] at hv; cases hv; exact .int _ _
  ·split at hb
   ·rename_i hn e; subst e; cases hb
    refine ⟨b, 0, 1, _, by rw [if_pos l1, if_neg hn], O1, rfl, rfl, fun i v hv => ?_, fun hf => (by cases hf), fun _ q => absurd rfl q⟩
    match i with
    | 0 =>
     simp at hv
     subst hv
     refine ⟨_, rfl, .iface ?_⟩
     have := VR.ptr (μ := fun b => if b < G then some (b, 0, if b = g0 then pow10V.length else 1) else if b = G then some (blk, 0, 0) else none) (b := G) (o := off) (c := blk) (d := 0) (z := 0) (by simp)
     simpa using this
    | i + 1 => simp at hv
   ·cases hb
 ·simp only at h1
  split at h1
  ·cases h1; cases hr
  ·split at h1
   ·cases h1; cases hr
   ·cases h1
 ·simp only at hb
  split at hb
  ·rename_i e; subst e; show b < G + 1; omega
  ·split at hb
   ·rename_i e; subst e; show b < G + 1; omega
   ·cases hb
 ·have hb : G + 1 ≤ b := hb
  show (if b < G then _ else if b = G then _ else none) = none
  rw [if_neg (by omega), if_neg (by omega)]
 ·simp only at hb
  split at hb
  ·cases hb; rfl
  ·split at hb
   ·cases hb; rfl
   ·cases hb
 ·simp only [AHeap.rd1]
  rw [if_neg (fun e => hne e.symm)]
  simp
end Gx
namespace Gx
open Go Go.RowKit Go.ChangeShapes Go.WideShapes
section
variable {H : Type} {enc : TypeId × Value → H} {P : Program} {w : World} {G : Nat}
end
end Gx
