import Derived.Sort.Walk0
import Derived.Test.YtgnljbdobbahkaaDoorFn1
namespace Ge
open Go Gx
abbrev It := ByteArray × ByteArray × Int × Int × Int × Int
def itC (x : It) : List Value := [.string x.1, .string x.2.1, .int .i64 x.2.2.1, .int .i64 x.2.2.2.1, .int .i64 x.2.2.2.2.1, .int .i64 x.2.2.2.2.2]
theorem itC_len (x : It) : (itC x).length = 6 := rfl
def cmpB (a b : ByteArray) : Int := if bl a < bl b then -1 else if a = b then 0 else 1
def cmpI (a b : Int) : Int := if a < b then -1 else if a = b then 0 else 1
def orL : List Int → Int
 | [] => 0
 | c :: l => if c ≠ 0 then c else orL l
def ordL (x y : It) : List Int := [cmpB x.1 y.1, cmpB x.2.1 y.2.1, cmpI x.2.2.2.1 y.2.2.2.1, cmpI x.2.2.2.2.1 y.2.2.2.2.1, cmpI x.2.2.2.2.2 y.2.2.2.2.2, cmpI x.2.2.1 y.2.2.1]
def ord (x y : It) : Int := orL (ordL x y)
section
variable (k : Nat) (D : CallF)
end
end Ge
namespace Ge
open Go Gx
def okI (x : It) : Prop := x.1.size = 32 ∧ x.2.1.size = 32 ∧ (x.2.2.1 = 1 ∨ x.2.2.1 = 2) ∧ (0 ≤ x.2.2.2.1 ∧ x.2.2.2.1 ≤ 65536) ∧ (1 ≤ x.2.2.2.2.1 ∧ x.2.2.2.2.1 ≤ 65536) ∧ (0 ≤ x.2.2.2.2.2 ∧ x.2.2.2.2.2 ≤ 65536)
instance (x : It) : Decidable (okI x) := by unfold okI; exact inferInstance
section
variable (k : Nat) (D : CallF)
theorem known_spec (n : Int) (h : AHeap) : ref13_Known k D n h = some (decide (n = 1 ∨ n = 2), h) := by
 simp only [ref13_Known]
 by_cases c : n = 1
 ·simp [c]
 ·by_cases d : n = 2 <;> simp [c, d]
end
end Ge
namespace Ge
open Go Gx
section
variable {k : Nat} {h : AHeap} {s : Slc} {xs : List It}
end
end Ge
namespace Ge
open Go Gx
structure SlotB (base : Nat) (h : AHeap) (tb b : Nat) (sp : Option Nat) (cap : Nat) (R : List Value) (s : Slc) (xs : List It) : Prop where
 s : s = ⟨some ⟨b, 0, sp⟩, xs.length, cap⟩
 blk : h.get b = some (.cells (xs.flatMap itC ++ R) 57 true 0)
 one : allOne R = true
 ge : base ≤ b
 lt : b < h.next
 ne : b ≠ tb
 le : xs.length ≤ cap
 room : cap * 6 ≤ xs.length * 6 + R.length
 sp : (sp = some 7 ∧ cap ≠ 0) ∨ (sp = some 0 ∧ cap = 0)
def SlotR (base : Nat) (h : AHeap) (tb : Nat) (s : Slc) (xs : List It) : Prop := (s = ⟨none, 0, 0⟩ ∧ xs = []) ∨ ∃ b sp cap R, SlotB base h tb b sp cap R s xs
section
variable {base tb : Nat} {h h' : AHeap} {s : Slc} {xs : List It}
theorem SlotR.chg {S : Nat → Prop} (A : SlotR base h tb s xs) (c : Chg S h h') (hs : ∀ a, s.a = some a → ¬ S a.block) : SlotR base h' tb s xs := by
 rcases A with A | ⟨b, sp, cap, R, A⟩
 ·exact .inl A
 ·exact .inr ⟨b, sp, cap, R, A.s, (c.oth b A.lt (hs ⟨b, 0, sp⟩ (by rw [A.s]))).trans A.blk, A.one, A.ge, Nat.lt_of_lt_of_le A.lt c.nx, A.ne, A.le, A.room, A.sp⟩
theorem SlotR.keeps (A : SlotR base h tb s xs) (c : Keeps h h') : SlotR base h' tb s xs := A.chg c fun _ _ f => f
theorem SlotR.len (A : SlotR base h tb s xs) : s.len = xs.length := by
 rcases A with ⟨rfl, rfl⟩ | ⟨b, sp, cap, R, A⟩
 ·rfl
 ·rw [A.s]
theorem flat_get {ys : List It} {R : List Value} {i : Nat} {x : It} (hx : ys[i]? = some x) (j : Nat) (v : Value) (hv : (itC x)[j]? = some v) : (ys.flatMap itC ++ R)[i * 6 + j]? = some v := by
 have := flatW_get itC_len hx j v hv
 rw [List.getElem?_append_left (List.getElem?_eq_some_iff.1 this).1]; exact this
theorem SlotR.row (A : SlotR base h tb s xs) : RowW 6 itC h s xs := by
 rcases A with ⟨rfl, rfl⟩ | ⟨b, sp, cap, R, A⟩
 ·exact RowW.nil _ _ _ _ _
 ·rw [A.s]
  exact ⟨rfl, fun i x hx => ⟨_, _, _, _, _, rfl, A.lt, A.blk, fun j v hv => by rw [Nat.zero_add]; exact flat_get hx j v hv⟩⟩
theorem SlotR.own (A : SlotR base h tb s xs) : ∀ a, s.a = some a → base ≤ a.block ∧ a.block < h.next ∧ a.block ≠ tb := by
 rcases A with ⟨rfl, rfl⟩ | ⟨b, sp, cap, R, A⟩
 ·intro a ha; cases ha
 ·intro a ha; rw [A.s] at ha; cases ha; exact ⟨A.ge, A.lt, A.ne⟩
end
end Ge
namespace Ge
open Go Gx
def Lx {α β : Type} (lt : α → α → Prop) (R : β → β → Prop) (x y : α × β) : Prop := lt x.1 y.1 ∨ x.1 = y.1 ∧ R x.2 y.2
theorem Lx.trans {α β : Type} {lt : α → α → Prop} {R : β → β → Prop} (h1 : ∀ a b c, lt a b → lt b c → lt a c) (h2 : ∀ a b c, R a b → R b c → R a c) : ∀ x y z : α × β, Lx lt R x y → Lx lt R y z → Lx lt R x z := by
 rintro ⟨a, b⟩ ⟨c, d⟩ ⟨e, f⟩ (p | ⟨p, p'⟩) (q | ⟨q, q'⟩)
 ·exact .inl (h1 _ _ _ p q)
 ·simp only at q p; subst q; exact .inl p
 ·simp only at q p; subst p; exact .inl q
 ·simp only at q p; subst p; subst q; exact .inr ⟨rfl, h2 _ _ _ p' q'⟩
def ltB (a b : ByteArray) : Prop := bl a < bl b
end Ge
namespace Ge
open Go Gx
def idx (id : ByteArray) : Nat := match bl id with
 | [] => 0
 | b :: _ => b.toNat
def tabC (sl : Nat → Slc) : List Value := (List.range 256).map fun i => .slice (sl i).a (sl i).len (sl i).cap
def upd {α : Type} (f : Nat → α) (i : Nat) (x : α) : Nat → α := fun j => if j = i then x else f j
def TOwn (tb : Nat) (sl : Nat → Slc) (y : Nat) : Prop := y = tb ∨ ∃ i, i < 256 ∧ ∃ a, (sl i).a = some a ∧ a.block = y
structure Tab (base : Nat) (h : AHeap) (tb : Nat) (sl : Nat → Slc) (F : Nat → List It) : Prop where
 blk : h.get tb = some (.cells (tabC sl) 125 true 0)
 lt : tb < h.next
 ge : base ≤ tb
 slot : ∀ i, i < 256 → SlotR base h tb (sl i) (F i)
 apart : ∀ i j a b, i < 256 → j < 256 → i ≠ j → (sl i).a = some a → (sl j).a = some b → a.block ≠ b.block
section
variable {base tb : Nat} {h h' : AHeap} {sl : Nat → Slc} {F : Nat → List It}
theorem Tab.own (T : Tab base h tb sl F) {y : Nat} (hy : TOwn tb sl y) : base ≤ y ∧ y < h.next := by
 rcases hy with rfl | ⟨i, hi, a, ha, rfl⟩
 ·exact ⟨T.ge, T.lt⟩
 ·have := (T.slot i hi).own a ha; exact ⟨this.1, this.2.1⟩
theorem Tab.chg {S : Nat → Prop} (T : Tab base h tb sl F) (c : Chg S h h') (hs : ∀ y, TOwn tb sl y → ¬ S y) : Tab base h' tb sl F :=
 ⟨(c.oth tb T.lt (hs tb (.inl rfl))).trans T.blk, Nat.lt_of_lt_of_le T.lt c.nx, T.ge, fun i hi => (T.slot i hi).chg c fun a ha => hs _ (.inr ⟨i, hi, a, ha, rfl⟩), T.apart⟩
theorem Tab.keeps (T : Tab base h tb sl F) (c : Keeps h h') : Tab base h' tb sl F := T.chg c fun _ _ f => f
end
section
variable {k base tb : Nat} {h : AHeap} {sl : Nat → Slc} {F : Nat → List It} {s : Slc} {xs : List It}
end
end Ge
namespace Ge
open Go Gx
section
variable {k base tb : Nat} {h : AHeap} {sl : Nat → Slc} {F : Nat → List It} {s : Slc} {xs : List It}
end
end Ge
namespace Ge
open Go Gx
section
variable {k base tb : Nat} {h : AHeap} {s : Slc} {xs : List It} {pb : Nat} {p : ByteArray}
end
end Ge
namespace Ge
open Go Gx
section
variable {k base tb : Nat} {h : AHeap} {sl : Nat → Slc} {F : Nat → List It}
end
end Ge
namespace Ge
open Go Gx
def Tru {R : Type} (x : Option (R × AHeap)) (v : R) : Prop := ∃ h', x = some (v, h')
theorem Tru.wp {R : Type} {v : R} {x : Option (R × AHeap)} (h : Gx.Wp x fun q => q.1 = v) : Tru x v := by
 obtain ⟨⟨a, b⟩, e, q⟩ := h
 simp only at q
 subst q
 exact ⟨b, e⟩
section
variable {k : Nat}
end
end Ge
namespace Ge
open Go Gx
variable {H : Type} {enc : TypeId × Value → H}
end Ge
namespace Ge
open Go Gx
def leb (n : Nat) : List UInt8 := if n < 128 then [UInt8.ofNat n] else UInt8.ofNat (n % 128 + 128) :: leb (n / 128)
termination_by n
decreasing_by omega
theorem leb_lt {n : Nat} (h : n < 128) : leb n = [UInt8.ofNat n] := by rw [leb]; rw [if_pos h]
theorem leb_ge {n : Nat} (h : ¬ n < 128) : leb n = UInt8.ofNat (n % 128 + 128) :: leb (n / 128) := by rw [leb]; rw [if_neg h]
theorem leb_len : ∀ (d n : Nat), n < 128 ^ (d + 1) → (leb n).length ≤ d + 1
 | 0, n, h => by rw [leb_lt (by omega)]; simp
 | d + 1, n, h => by
  by_cases c : n < 128
  ·rw [leb_lt c]; simp
  ·rw [leb_ge c, List.length_cons]
   have : n / 128 < 128 ^ (d + 1) := (Nat.div_lt_iff_lt_mul (by decide)).2 (by rw [Nat.pow_succ] at h; exact h)
   have := leb_len d (n / 128) this
   omega
def bA (l : List UInt8) : ByteArray := ⟨⟨l⟩⟩
theorem or128 : ∀ a : Fin 256, Go.bits .or .u8 (a.val : Int) 128 = ((a.val % 128 + 128 : Nat) : Int) := by decide +kernel
section
variable {k : Nat}
theorem encB_of (m : Nat) (h : m < 256) : Value.int .u8 (m : Int) = encB (UInt8.ofNat m) := by
 unfold encB
 congr 1
 have : (UInt8.ofNat m).toNat = m := by simp [UInt8.toNat_ofNat']; omega
 omega
theorem bytes_row {h : AHeap} {s : Slc} {l : List UInt8} (R : Row encB h s l) : bytesOf h s = some (bA l) := by
 have := R.rdS
 unfold Gx.rdS at this
 unfold bytesOf
 cases e : s.a with
 | none =>
  rw [e] at this
  have e2 : l.map encB = [] := by
   cases hl : l.map encB with
   | nil => rfl
   | cons x y => rw [hl] at this; cases this
  have : l = [] := by simpa using e2
  rw [this]; rfl
 | some a =>
  rw [e] at this
  simp only [Nat.mul_one] at this
  show (h.rdL a.block a.off s.len).bind _ = _
  rw [this]
  show (unbytes (l.map encB)).bind _ = _
  rw [unbytes_map]; rfl
theorem short_spec (D : CallF) (hk : 20 ≤ k) (n : Nat) (hn : n < 9223372036854775808) (h : AHeap) : Gx.Wp (num_Short k D (n : Int) h) fun z => z.1 = (bA (leb n), 0) ∧ Keeps h z.2 := by
 simp only [num_Short]
 refine .ifn (by simp) (Gx.Wp.jn fun j4 h4 => ?_)
 unfold num_Short_l0
 obtain ⟨bot, eb⟩ := iterK_of (fun _ _ _ => none) (num_Short_l0b k D j4) (show 9 + 1 ≤ k by omega)
 rw [eb]
 have loop : ∀ (d m : Nat) (l : List UInt8) (o : Slc) (H : AHeap), m < 128 ^ (d + 1) → m < 9223372036854775808 → l.length + d ≤ 20 → l ++ leb m = leb n → Keeps h H → Acc encB 5 h.next H o l → Gx.Wp (iterK bot (d + 1) (num_Short_l0b k D j4) (m : Int) o H) fun z => z.1 = (bA (leb n), 0) ∧ Keeps h z.2 := fun d => by
  induction d with
  | zero =>
   intro m l o H hm hm2 hl hlm kp A
   rw [iterK_s]; simp only [num_Short_l0b]
   have hm' : m < 128 := by simpa using hm
   refine .ifn (by simp; omega) ?_
   rw [h4]
   refine Wp.newE fun H1 e1 k1 n1 g1 => ?_
   rw [Gx.w8 _ (by omega), encB_of m (by omega)] at e1
   obtain ⟨s', h9, a1, a2, A', c9, d9⟩ := Acc.pushK A (fun _ => rfl) (UInt8.ofNat m) (bytes := 1) e1 (by omega) (by decide) kp.nx
   refine .bnd a1 (.bnd a2 (.bnd (bytes_row A'.row) (.of ⟨?_, kp.keepsS c9 fun y ⟨a, ha, e⟩ => by rw [e]; exact (A.lt a ha).2⟩)))
   rw [← hlm, leb_lt hm']
  | succ d ih =>
   intro m l o H hm hm2 hl hlm kp A
   rw [iterK_s]; simp only [num_Short_l0b]
   by_cases c : m < 128
   ·refine .ifn (by simp; omega) ?_
    rw [h4]
    refine Wp.newE fun H1 e1 k1 n1 g1 => ?_
    rw [Gx.w8 _ (by omega), encB_of m (by omega)] at e1
    obtain ⟨s', h9, a1, a2, A', c9, d9⟩ := Acc.pushK A (fun _ => rfl) (UInt8.ofNat m) (bytes := 1) e1 (by omega) (by decide) kp.nx
    refine .bnd a1 (.bnd a2 (.bnd (bytes_row A'.row) (.of ⟨?_, kp.keepsS c9 fun y ⟨a, ha, e⟩ => by rw [e]; exact (A.lt a ha).2⟩)))
    rw [← hlm, leb_lt c]
   ·refine .ifp (by simp; omega) (Wp.newE fun H1 e1 k1 n1 g1 => ?_)
    have ew : IntKind.wrap .u8 (m : Int) = ((m % 256 : Nat) : Int) := by rw [Go.IntKind.wrap_u8]; omega
    have eo : Go.bits .or .u8 (IntKind.wrap .u8 (m : Int)) 128 = ((m % 128 + 128 : Nat) : Int) := by
     rw [ew, or128 ⟨m % 256, by omega⟩]
     congr 2
     show m % 256 % 128 = m % 128
     omega
    rw [eo, encB_of _ (by omega)] at e1
    obtain ⟨s', h9, a1, a2, A', c9, d9⟩ := Acc.pushK A (fun _ => rfl) (UInt8.ofNat (m % 128 + 128)) (bytes := 1) e1 (by omega) (by decide) kp.nx
    refine .bnd a1 (.bnd a2 ?_)
    have ef : Int.fdiv (m : Int) 128 = ((m / 128 : Nat) : Int) := by rw [Int.fdiv_eq_ediv_of_nonneg _ (by decide)]; omega
    rw [ef]
    refine ih (m / 128) (l ++ [UInt8.ofNat (m % 128 + 128)]) s' h9 ((Nat.div_lt_iff_lt_mul (by decide)).2 (by rw [Nat.pow_succ] at hm; exact hm)) (by omega) (by rw [List.length_append, List.length_singleton]; omega) ?_ (kp.keepsS c9 fun y ⟨a, ha, e⟩ => by rw [e]; exact (A.lt a ha).2) A'
    rw [← hlm, leb_ge c]; simp
 exact loop 9 n [] ⟨none, 0, 0⟩ h (Nat.lt_of_lt_of_le hn (by decide)) hn (by simp) (by simp) (.refl _ _) (Acc.nil _ _ _ _)
theorem small_spec (D : CallF) (hk : 20 ≤ k) (n : Nat) (hn : n < 9223372036854775808) (h : AHeap) : Gx.Wp (ref01_Small k D (n : Int) h) fun z => z.1 = bA (leb n) ∧ Keeps h z.2 := by
 simp only [ref01_Small]
 refine Gx.Wp.jn fun j4 h4 => ?_
 unfold ref01_Small_l0
 obtain ⟨bot, eb⟩ := iterK_of (fun _ _ _ => none) (ref01_Small_l0b k D j4) (show 9 + 1 ≤ k by omega)
 rw [eb]
 have fin : ∀ (m : Nat) (l : List UInt8) (o : Slc) (H : AHeap), m < 128 → l.length ≤ 20 → l ++ leb m = leb n → Keeps h H → Acc encB 5 h.next H o l → Gx.Wp (j4 (m : Int) o H) fun z => z.1 = bA (leb n) ∧ Keeps h z.2 := fun m l o H hm hl hlm kp A => by
  rw [h4]
  refine Wp.newE fun H1 e1 k1 n1 g1 => ?_
  rw [Gx.w8 _ (by omega), encB_of m (by omega)] at e1
  obtain ⟨s', h9, a1, a2, A', c9, d9⟩ := Acc.pushK A (fun _ => rfl) (UInt8.ofNat m) (bytes := 1) e1 (by omega) (by decide) kp.nx
  refine .bnd a1 (.bnd a2 (.bnd (bytes_row A'.row) (.of ⟨?_, kp.keepsS c9 fun y ⟨a, ha, e⟩ => by rw [e]; exact (A.lt a ha).2⟩)))
  rw [← hlm, leb_lt hm]
 have loop : ∀ (d m : Nat) (l : List UInt8) (o : Slc) (H : AHeap), m < 128 ^ (d + 1) → m < 9223372036854775808 → l.length + d ≤ 20 → l ++ leb m = leb n → Keeps h H → Acc encB 5 h.next H o l → Gx.Wp (iterK bot (d + 1) (ref01_Small_l0b k D j4) (m : Int) o H) fun z => z.1 = bA (leb n) ∧ Keeps h z.2 := fun d => by
  induction d with
  | zero =>
   intro m l o H hm hm2 hl hlm kp A
   rw [iterK_s]; simp only [ref01_Small_l0b]
   have hm' : m < 128 := by simpa using hm
   exact .ifn (by simp; omega) (fin m l o H hm' (by omega) hlm kp A)
  | succ d ih =>
   intro m l o H hm hm2 hl hlm kp A
   rw [iterK_s]; simp only [ref01_Small_l0b]
   by_cases c : m < 128
   ·exact .ifn (by simp; omega) (fin m l o H c (by omega) hlm kp A)
   ·refine .ifp (by simp; omega) (Wp.newE fun H1 e1 k1 n1 g1 => ?_)
    have et : IntKind.wrap .u8 (IntKind.wrap .i64 (128 + Int.tmod (m : Int) 128)) = ((m % 128 + 128 : Nat) : Int) := by
     have : Int.tmod (m : Int) 128 = ((m % 128 : Nat) : Int) := by rw [Int.tmod_eq_emod_of_nonneg (by omega)]; omega
     rw [this, Gx.w64 _ (by omega), Gx.w8 _ (by omega)]; omega
    rw [et, encB_of _ (by omega)] at e1
    obtain ⟨s', h9, a1, a2, A', c9, d9⟩ := Acc.pushK A (fun _ => rfl) (UInt8.ofNat (m % 128 + 128)) (bytes := 1) e1 (by omega) (by decide) kp.nx
    refine .bnd a1 (.bnd a2 ?_)
    have ef : IntKind.wrap .i64 (Int.tdiv (m : Int) 128) = ((m / 128 : Nat) : Int) := by
     rw [Int.tdiv_eq_ediv_of_nonneg (by omega), Gx.w64 _ (by omega)]; omega
    rw [ef]
    refine ih (m / 128) (l ++ [UInt8.ofNat (m % 128 + 128)]) s' h9 ((Nat.div_lt_iff_lt_mul (by decide)).2 (by rw [Nat.pow_succ] at hm; exact hm)) (by omega) (by rw [List.length_append, List.length_singleton]; omega) ?_ (kp.keepsS c9 fun y ⟨a, ha, e⟩ => by rw [e]; exact (A.lt a ha).2) A'
    rw [← hlm, leb_ge c]; simp
 exact loop 9 n [] ⟨none, 0, 0⟩ h (Nat.lt_of_lt_of_le hn (by decide)) hn (by simp) (by simp) (.refl _ _) (Acc.nil _ _ _ _)
end
end Ge
namespace Ge
open Go Gx
structure BuS (base : Nat) (H : AHeap) (bb : Nat) (s : Slc) (l : List UInt8) : Prop where
 blk : ∃ pv, H.get bb = some (.cells [pv, .slice s.a s.len s.cap] 100 true 0) ∧ (pv = .pointer none ∨ pv = .pointer (some ⟨bb, 0, none⟩))
 acc : Acc encB 5 base H s l
 lt : bb < H.next
 ge : base ≤ bb
 ne : ∀ a, s.a = some a → a.block ≠ bb
def BOwn (bb : Nat) (s : Slc) (y : Nat) : Prop := y = bb ∨ ofS s y
section
variable {k base bb : Nat} {h H H' : AHeap} {s : Slc} {l : List UInt8}
theorem BuS.own (B : BuS base H bb s l) {y : Nat} (hy : BOwn bb s y) : base ≤ y ∧ y < H.next := by
 rcases hy with rfl | ⟨a, ha, rfl⟩
 ·exact ⟨B.ge, B.lt⟩
 ·exact ⟨(B.acc.lt a ha).2, (B.acc.lt a ha).1⟩
theorem BuS.chg {S : Nat → Prop} (B : BuS base H bb s l) (c : Chg S H H') (hs : ∀ y, BOwn bb s y → ¬ S y) : BuS base H' bb s l :=
 ⟨by
  obtain ⟨pv, g, e⟩ := B.blk
  exact ⟨pv, (c.oth bb B.lt (hs bb (.inl rfl))).trans g, e⟩, B.acc.chg c fun a ha => hs _ (.inr ⟨a, ha, rfl⟩), Nat.lt_of_lt_of_le B.lt c.nx, B.ge, B.ne⟩
theorem BuS.keeps (B : BuS base H bb s l) (c : Keeps H H') : BuS base H' bb s l := B.chg c fun _ _ f => f
theorem BuS.new (H : AHeap) (g : H'.get H.next = some (.cells [.pointer none, .slice none 0 0] 100 true 0)) (n : H'.next = H.next + 1) : BuS H.next H' H.next ⟨none, 0, 0⟩ [] :=
 ⟨⟨_, g, .inl rfl⟩, Acc.nil _ _ _ _, by omega, Nat.le_refl _, fun a ha => by cases ha⟩
theorem write_spec (D : CallF) (B : BuS base H bb s l) (x : ByteArray) (hx : 2 * (l.length + x.size) ≤ 281474976710656) :
  Gx.Wp (strings_Builder_WriteString k D (some ⟨bb, 0, none⟩) x H) fun z => ∃ s', BuS base z.2 bb s' (l ++ bl x) ∧ Chg (BOwn bb s) H z.2 ∧ ∀ y, BOwn bb s' y → H.next ≤ y ∨ BOwn bb s y := by
 simp only [strings_Builder_WriteString]
 obtain ⟨pv, g, hpv⟩ := B.blk
 have hlt := B.lt
 have hge := B.ge
 obtain ⟨H1, e1, g1, c1⟩ : ∃ H1, ccA ccTab ⟨bb, 0, none⟩ H = some H1 ∧ H1.get bb = some (.cells [.pointer (some ⟨bb, 0, none⟩), .slice s.a s.len s.cap] 100 true 0) ∧ Chg (· = bb) H H1 := by
  have ht : tabIn 100 0 2 ccTab = true := by decide
  rcases hpv with rfl | rfl
  ·refine ⟨_, ?_, sset_get _ _ _, Chg.set (.inr rfl)⟩
   ·unfold ccA
    simp only [g]
    rw [if_pos ⟨by simpa using ht, trivial⟩]
    show st1 ⟨bb, 0, none⟩ _ H = _
    rw [st1_of g (by simp) rfl]; rfl
  ·refine ⟨H, ?_, g, .refl _ _⟩
   ·unfold ccA
    simp only [g]
    rw [if_pos ⟨by simpa using ht, trivial⟩]
    simp
 have nx1 := c1.nx
 have A1 : Acc encB 5 base H1 s l := B.acc.chg c1 fun a ha e => B.ne a ha e
 obtain ⟨s', h5, a5, A5, c5, d5⟩ : ∃ s' h5, appendA 1 1 5 H1 s (bytesL x) x.size = some (s', h5) ∧ Acc encB 5 base h5 s' (l ++ bl x) ∧ Chg (ofS s) H1 h5 ∧ ∀ a, s'.a = some a → H1.next ≤ a.block ∨ ofS s a.block := by
  by_cases c : bl x = []
  ·have hx0 : x = ⟨#[]⟩ := bl_inj (by rw [c]; rfl)
   subst hx0
   refine ⟨s, H1, ?_, by rw [c, List.append_nil]; exact A1, .refl _ _, fun a ha => .inr ⟨a, ha, rfl⟩⟩
   rcases A1.st with ⟨rfl, _⟩ | ⟨b, gg⟩
   ·rfl
   ·rw [gg.s]
    show appendA 1 1 5 H1 _ [] 0 = _
    simp [appendA]
  ·obtain ⟨s', h5, p1, p2, p3, p4⟩ := A1.app (fun _ => rfl) (bl x) (bytes := 1) (by have : (bl x).length = x.size := rfl; omega) (by decide) (by omega)
   exact ⟨s', h5, p1, p2, p3, fun a ha => (p4 a ha).imp id fun q => ⟨a, q, rfl⟩⟩
 have n5 := c5.nx
 have g5 : h5.get bb = some (.cells [.pointer (some ⟨bb, 0, none⟩), .slice s.a s.len s.cap] 100 true 0) := c5.got (by omega) (fun ⟨a, ha, e⟩ => B.ne a ha e.symm) g1
 refine .bnd rfl (.bnd e1 (.bnd rfl (.bnd (sldL_at (o := 0 + 1) g1 rfl) (.bnd a5 (.bnd rfl (.bnd (st1_of g5 (by simp) rfl) (.of ?_)))))))
 have d5' : ∀ a, s'.a = some a → a.block ≠ bb := fun a ha e => by
  rcases d5 a ha with q | ⟨b, hb, q⟩
  ·omega
  ·exact B.ne b hb (q ▸ e)
 refine ⟨s', ⟨⟨_, sset_get _ _ _, .inr rfl⟩, A5.chg (S := (· = bb)) (Chg.set (.inr rfl)) fun a ha e => d5' a ha e, by simp; omega, hge, d5'⟩, ?_, ?_⟩
 ·refine Chg.beh (T := (· = bb)) (Chg.beh (T := ofS s) (c1.wk fun y _ e => .inl e) c5 fun y _ e => .inr e) (Chg.set (.inr rfl)) fun y _ e => .inl e
 ·rintro y (rfl | ⟨a, ha, rfl⟩)
  ·exact .inr (.inl rfl)
  ·rcases d5 a ha with q | q
   ·left; omega
   ·exact .inr (.inr q)
end
end Ge
namespace Ge
open Go Gx
instance (a b : ByteArray) : Decidable (ltB a b) := by unfold ltB; exact inferInstance
section
variable {k : Nat} {h : AHeap} {fs fi : Slc} {sup : List ByteArray} {its : List It}
end
end Ge
namespace Ge
open Go Gx
section
variable {k : Nat} {h : AHeap} {fs fi : Slc} {sup : List ByteArray} {its : List It}
end
end Ge
namespace Ge
open Go Gx
section
variable {k : Nat} {h : AHeap}
end
end Ge
namespace Ge
open Go Gx
section
variable {k : Nat} {h : AHeap} {fs fi : Slc} {sup : List ByteArray} {its : List It}
end
end Ge
namespace Ge
open Go Gx
abbrev Rd := Option (List UInt8)
end Ge
namespace Ge
open Go Gx
def PRd (H : AHeap) (rb : Nat) (st : Rd) : Prop := ∃ (s : ByteArray) (e : Int), H.get rb = some (.cells [.string s, .int .i64 e] 157 true 0) ∧ s.size ≤ 1000000 ∧ (e = 0 ↔ st.isSome = true) ∧ ∀ l, st = some l → s = bA l
section
variable {k rb : Nat} {H H' : AHeap} {st : Rd}
theorem PRd.chg {S : Nat → Prop} (P : PRd H rb st) (hr : rb < H.next) (c : Chg S H H') (hs : ¬ S rb) : PRd H' rb st := by
 obtain ⟨s, e, h1, h2⟩ := P
 exact ⟨s, e, c.got hr hs h1, h2⟩
theorem PRd.keeps (P : PRd H rb st) (hr : rb < H.next) (c : Keeps H H') : PRd H' rb st := P.chg hr c fun f => f
theorem PRd.ok {l : List UInt8} (g : H.get rb = some (.cells [.string (bA l), .int .i64 0] 157 true 0)) (hl : l.length ≤ 1000000) : PRd H rb (some l) := ⟨bA l, 0, g, hl, by simp, fun l' h => by cases h; rfl⟩
theorem PRd.bad {s : ByteArray} {e : Int} (g : H.get rb = some (.cells [.string s, .int .i64 e] 157 true 0)) (hl : s.size ≤ 1000000) (he : e ≠ 0) : PRd H rb none := ⟨s, e, g, hl, by simpa using he, fun l h => by cases h⟩
end
end Ge
namespace Ge
open Go Gx
section
variable {k rb : Nat} {h H H' : AHeap} {st : Rd}
end
end Ge
namespace Ge
open Go Gx
section
variable {k rb : Nat} {h H H' : AHeap} {st : Rd}
end
end Ge
namespace Ge
open Go Gx
section
variable {k base bb : Nat} {H : AHeap} {s : Slc} {l : List UInt8}
end
end Ge
namespace Ge
open Go Gx
section
variable {k base bb : Nat} {H : AHeap} {s : Slc} {l : List UInt8}
end
end Ge
namespace Ge
open Go Gx
section
variable {k : Nat}
end
end Ge
namespace Ge
open Go Gx
def RRd (H : AHeap) (rb : Nat) (st : Rd) : Prop := ∃ (S : ByteArray) (a : Nat) (e : Int), H.get rb = some (.cells [.string S, .int .i64 (a : Int), .int .i64 e] 86 true 0) ∧ S.size ≤ 1000000 ∧ a ≤ S.size ∧ (e = 0 ↔ st.isSome = true) ∧ ∀ l, st = some l → l = (bl S).drop a
section
variable {k rb : Nat} {H H' : AHeap} {st : Rd}
theorem RRd.chg {S : Nat → Prop} (P : RRd H rb st) (hr : rb < H.next) (c : Chg S H H') (hs : ¬ S rb) : RRd H' rb st := by
 obtain ⟨s, a, e, h1, h2⟩ := P
 exact ⟨s, a, e, c.got hr hs h1, h2⟩
theorem RRd.keeps (P : RRd H rb st) (hr : rb < H.next) (c : Keeps H H') : RRd H' rb st := P.chg hr c fun f => f
theorem RRd.ok {S : ByteArray} {a : Nat} (g : H.get rb = some (.cells [.string S, .int .i64 (a : Int), .int .i64 0] 86 true 0)) (hl : S.size ≤ 1000000) (ha : a ≤ S.size) : RRd H rb (some ((bl S).drop a)) := ⟨S, a, 0, g, hl, ha, by simp, fun l' h => by cases h; rfl⟩
theorem RRd.bad {S : ByteArray} {a : Nat} {e : Int} (g : H.get rb = some (.cells [.string S, .int .i64 (a : Int), .int .i64 e] 86 true 0)) (hl : S.size ≤ 1000000) (ha : a ≤ S.size) (he : e ≠ 0) : RRd H rb none := ⟨S, a, e, g, hl, ha, by simpa using he, fun l h => by cases h⟩
section
variable {S : ByteArray} {a : Nat} {e : Int}
end
end
end Ge
namespace Ge
open Go Gx
def RRx (S : ByteArray) (H : AHeap) (rb : Nat) (st : Rd) : Prop := ∃ (a : Nat) (e : Int), H.get rb = some (.cells [.string S, .int .i64 (a : Int), .int .i64 e] 86 true 0) ∧ S.size ≤ 9000000000000000000 ∧ a ≤ S.size ∧ (e = 0 ↔ st.isSome = true) ∧ ∀ l, st = some l → l = (bl S).drop a
section
variable {k rb : Nat} {H H' : AHeap} {st : Rd} {S : ByteArray}
theorem RRx.ok {a : Nat} (g : H.get rb = some (.cells [.string S, .int .i64 (a : Int), .int .i64 0] 86 true 0)) (hl : S.size ≤ 9000000000000000000) (ha : a ≤ S.size) : RRx S H rb (some ((bl S).drop a)) := ⟨a, 0, g, hl, ha, by simp, fun l' h => by cases h; rfl⟩
theorem RRx.bad {a : Nat} {e : Int} (g : H.get rb = some (.cells [.string S, .int .i64 (a : Int), .int .i64 e] 86 true 0)) (hl : S.size ≤ 9000000000000000000) (ha : a ≤ S.size) (he : e ≠ 0) : RRx S H rb none := ⟨a, e, g, hl, ha, by simpa using he, fun l h => by cases h⟩
end
end Ge
namespace Ge
open Go Gx
abbrev Sq := List UInt8 × Nat × Nat
def numB (n : Nat) : List UInt8 := if n < 15 then [] else List.replicate ((n - 15) / 255) 255 ++ [UInt8.ofNat ((n - 15) % 255)]
def tokB (a d n : Nat) : UInt8 := UInt8.ofNat (min a 15 * 16 + if 0 < d then min (n - 4) 15 else 0)
def seqB (l : List UInt8) (d n : Nat) : List UInt8 := tokB l.length d n :: numB l.length ++ l ++ if 0 < d then UInt8.ofNat (d % 256) :: UInt8.ofNat (d / 256) :: numB (n - 4) else []
end Ge
namespace Ge
open Go Gx
def lcp : List UInt8 → List UInt8 → Nat
 | a :: x, b :: y => if a = b then lcp x y + 1 else 0
 | _, _ => 0
abbrev Fr := List UInt8 × Nat × Nat
def four (s : List UInt8) (i : Nat) : List UInt8 := (s.drop i).take 4
def bestA (s : List UInt8) (i : Nat) : Nat → Nat × Nat
 | 0 => (0, 0)
 | n + 1 => if (bestA s i n).2 < lcp (s.drop (i - (n + 1))) (s.drop i) then (n + 1, lcp (s.drop (i - (n + 1))) (s.drop i)) else bestA s i n
def bestF (s : List UInt8) (i : Nat) (es : List Fr) : Nat × Nat :=
 match lkM (four s i) es with
 | some v => if i - v ≤ 65535 ∧ (bestA s i (min 64 i)).2 < lcp (s.drop v) (s.drop i) then (i - v, lcp (s.drop v) (s.drop i)) else bestA s i (min 64 i)
 | none => bestA s i (min 64 i)
def put1 (s : List UInt8) (i : Nat) (es : List Fr) : List Fr := if i + 4 ≤ s.length then ptM (four s i) i es.length es else es
def putN (s : List UInt8) : Nat → Nat → List Fr → List Fr
 | 0, _, es => es
 | n + 1, i, es => putN s n (i + 1) (put1 s i es)
def packL (s : List UInt8) : Nat → Nat → Nat → List Fr → List UInt8 → List UInt8
 | 0, _, _, _, out => out
 | f + 1, i, kept, es, out =>
  if i + 4 < s.length then
   if 4 ≤ min (bestF s i es).2 (s.length - 1 - i) then
    packL s f (i + min (bestF s i es).2 (s.length - 1 - i)) (i + min (bestF s i es).2 (s.length - 1 - i)) (putN s (min (bestF s i es).2 (s.length - 1 - i)) i es)
     (out ++ seqB ((s.take i).drop kept) (bestF s i es).1 (min (bestF s i es).2 (s.length - 1 - i)))
   else packL s f (i + 1) kept (putN s 1 i es) out
  else out ++ seqB (s.drop kept) 0 0
def packA (s : List UInt8) : List UInt8 := packL s (s.length + 1) 0 0 [] []
theorem bestA_ok (s : List UInt8) (i : Nat) : ∀ n, n ≤ 64 → n ≤ i → (bestA s i n).2 = 0 ∨ (0 < (bestA s i n).1 ∧ (bestA s i n).1 ≤ 65535 ∧ (bestA s i n).1 ≤ i ∧ (bestA s i n).2 = lcp (s.drop (i - (bestA s i n).1)) (s.drop i))
 | 0, _, _ => .inl rfl
 | n + 1, h1, h2 => by
  unfold bestA
  split
  ·exact .inr ⟨by simp, by simp; omega, by simpa using h2, rfl⟩
  ·exact bestA_ok s i n (by omega) (by omega)
def Ahead (i : Nat) (es : List Fr) : Prop := ∀ e ∈ es, e.2.1 < i
theorem put1_ahead {s : List UInt8} {i : Nat} {es : List Fr} (h : Ahead i es) : Ahead (i + 1) (put1 s i es) := by
 intro e he
 unfold put1 at he
 split at he
 ·rcases ptM_mem he with ⟨_, g⟩ | g
  ·omega
  ·have := h e g; omega
 ·have := h e he; omega
theorem putN_ahead {s : List UInt8} : ∀ (n i : Nat) {es : List Fr}, Ahead i es → Ahead (i + n) (putN s n i es)
 | 0, i, es, h => h
 | n + 1, i, es, h => by
  have := putN_ahead (s := s) n (i + 1) (put1_ahead (s := s) h)
  rw [show i + (n + 1) = i + 1 + n by omega]; exact this
theorem bestF_ok {s : List UInt8} {i : Nat} {es : List Fr} (ha : Ahead i es) : (bestF s i es).2 = 0 ∨ (0 < (bestF s i es).1 ∧ (bestF s i es).1 ≤ 65535 ∧ (bestF s i es).1 ≤ i ∧ (bestF s i es).2 = lcp (s.drop (i - (bestF s i es).1)) (s.drop i)) := by
 have b := bestA_ok s i (min 64 i) (by omega) (by omega)
 unfold bestF
 split
 ·rename_i v hv
  obtain ⟨e, he, _, e2⟩ := lkM_mem hv
  have := ha e he
  split
  ·rename_i c
   exact .inr ⟨by simp; omega, c.1, by simp, by simp only []; rw [show i - (i - v) = v by omega]⟩
  ·exact b
 ·exact b
end Ge
namespace Ge
open Go Gx
theorem ldS_at {h : AHeap} {b o : Nat} {sp : Option Nat} {c : List Value} {e : TypeId} {r : Bool} {fz : Nat} {m : ByteArray} (hb : h.get b = some (.cells c e r fz)) (hc : c[o]? = some (.string m)) : Gx.ldS ⟨b, o, sp⟩ h = some m := by
 simp [Gx.ldS, AHeap.rd1, hb, hc, decS]
theorem ldM_at {h : AHeap} {b o : Nat} {sp : Option Nat} {c : List Value} {e : TypeId} {r : Bool} {fz : Nat} {m : Option Nat} (hb : h.get b = some (.cells c e r fz)) (hc : c[o]? = some (.map m)) : Gx.ldM ⟨b, o, sp⟩ h = some m := by
 simp [Gx.ldM, AHeap.rd1, hb, hc, decM]
structure RL (h : AHeap) (rb : Nat) (s : ByteArray) (p : Nat) (bad : Bool) : Prop where
 g : h.get rb = some (.cells [.string s, .int .i64 (p : Int), .bool bad] 170 true 0)
 lt : rb < h.next
section
variable {k rb p : Nat} {h h' : AHeap} {s : ByteArray} {b : Bool}
theorem RL.chg {S : Nat → Prop} (R : RL h rb s p b) (c : Chg S h h') (hs : ¬ S rb) : RL h' rb s p b := ⟨c.got R.lt hs R.g, Nat.lt_of_lt_of_le R.lt c.nx⟩
theorem RL.keeps (R : RL h rb s p b) (c : Keeps h h') : RL h' rb s p b := R.chg c fun f => f
end
end Ge
namespace Ge
open Go Gx
section
variable {f a b long : Nat} {tok d0 d1 : UInt8} {l l1 l2 l3 : List UInt8}
end
end Ge
namespace Ge
open Go Gx
section
variable {k rb p : Nat} {h h' : AHeap} {s : ByteArray} {b : Bool}
end
section
variable {k rb : Nat} {s : ByteArray}
end
end Ge
namespace Ge
open Go Gx
section
variable {k : Nat} {s : ByteArray} {h : AHeap}
end
section
variable {ob r : Nat} {H : AHeap} {out : List UInt8}
end
section
variable {k ob N : Nat} {D : CallF}
end
end Ge
namespace Ge
open Go Gx
section
variable {k p : Nat} {h : AHeap} {s : ByteArray}
end
end Ge
namespace Ge
open Go Gx
theorem acc_bytes {base : Nat} {h : AHeap} {s : Slc} {xs : List UInt8} {e : TypeId} (A : Acc encB e base h s xs) : bytesOf h s = some ⟨⟨xs⟩⟩ := by
 rcases A.st with ⟨rfl, rfl⟩ | ⟨b, g⟩
 ·rfl
 ·rw [g.s]; exact bytesOf_out g.2
section
variable {k : Nat} {D : CallF} {h0 : AHeap} {l : Slc} {qs : List Sq}
end
end Ge
namespace Ge
open Go Gx
def vI (n : Nat) : Value := .int .i64 (n : Int)
theorem four_len {l : List UInt8} {i : Nat} (h : i + 4 ≤ l.length) : (four l i).length = 4 := by simp [four]; omega
theorem four_eq {l : List UInt8} {i : Nat} {a b c d : UInt8} (ha : l[i]? = some a) (hb : l[i + 1]? = some b) (hc : l[i + 2]? = some c) (hd : l[i + 3]? = some d) : four l i = [a, b, c, d] := by
 unfold four
 rw [dropc ha, dropc hb, dropc hc, dropc hd]; rfl
section
variable {k pb : Nat} {h : AHeap} {s : ByteArray} {m : Option Nat}
theorem four_spec (D : CallF) (g : h.get pb = some (.cells [.string s, .map m] 75 true 0)) (hl : pb < h.next) {i : Nat} (hi : i + 4 ≤ s.size) (hs : s.size ≤ 1048576) :
  Gx.Wp (lz_packer_four k D (some ⟨pb, 0, none⟩) (i : Int) h) fun z => Value.agg ⟨[.int .u8 z.1.1, .int .u8 z.1.2.1, .int .u8 z.1.2.2.1, .int .u8 z.1.2.2.2]⟩ = keyV (four (bl s) i) ∧ Keeps h z.2 := by
 simp only [lz_packer_four]
 obtain ⟨a, ha⟩ := isome (l := bl s) (i := i) (by rw [bl_length]; omega)
 obtain ⟨b, hb⟩ := isome (l := bl s) (i := i + 1) (by rw [bl_length]; omega)
 obtain ⟨c, hc⟩ := isome (l := bl s) (i := i + 2) (by rw [bl_length]; omega)
 obtain ⟨d, hd⟩ := isome (l := bl s) (i := i + 3) (by rw [bl_length]; omega)
 refine Wp.newE fun h1 e1 k1 n1 g1 => ?_
 have g' := k1.got hl g
 rw [Gx.w1 (by omega), show IntKind.wrap .i64 ((i : Int) + 2) = ((i + 2 : Nat) : Int) by rw [Gx.w64 _ (by omega)]; omega, show IntKind.wrap .i64 ((i : Int) + 3) = ((i + 3 : Nat) : Int) by rw [Gx.w64 _ (by omega)]; omega]
 refine .bnd rfl (.bnd (ldS_at g' rfl) (.bnd (idxS_of ha) (.bnd rfl (.bnd (ldS_at g' rfl) (.bnd (idxS_of hb) (.bnd rfl (.bnd (ldS_at g' rfl) (.bnd (idxS_of hc) (.bnd rfl (.bnd (ldS_at g' rfl) (.bnd (idxS_of hd) ?_)))))))))))
 refine Wp.stL g1 rfl rfl rfl (by decide) fun h14 c14 n14 g14 => .bnd (sldA_at g14 rfl) (.bnd (show decC [.i .u8, .i .u8, .i .u8, .i .u8] _ = some ((a.toNat : Int), (b.toNat : Int), (c.toNat : Int), (d.toNat : Int)) from rfl) (.of ⟨?_, k1.keepsS c14 fun y hy => by subst hy; omega⟩))
 rw [four_eq ha hb hc hd]; rfl
theorem alike_spec (D : CallF) (g : h.get pb = some (.cells [.string s, .map m] 75 true 0)) {f i : Nat} (hf : f < i) (hi : i ≤ s.size) (hs : s.size ≤ 1048576) (hk : s.size + 2 ≤ k) :
  lz_packer_alike k D (some ⟨pb, 0, none⟩) (f : Int) (i : Int) h = some (((lcp ((bl s).drop f) ((bl s).drop i) : Nat) : Int), h) := by
 simp only [lz_packer_alike]
 refine jn ?_
 obtain ⟨j3, h3⟩ : ∃ j3, j3 = (fun (n1 : Int) (h2 : AHeap) => some (n1, h2)) := ⟨_, rfl⟩
 rw [← h3]
 unfold lz_packer_alike_l0
 obtain ⟨bot, eb⟩ := iterK_of (fun _ _ _ _ _ => none) (lz_packer_alike_l0b k D j3) (show (s.size - i) + 1 ≤ k by omega)
 rw [eb]
 have loop : ∀ d n : Nat, i + n + d = s.size → iterK bot (d + 1) (lz_packer_alike_l0b k D j3) (some ⟨pb, 0, none⟩) (f : Int) (i : Int) (n : Int) h = some (((n + lcp ((bl s).drop (f + n)) ((bl s).drop (i + n)) : Nat) : Int), h) := fun d => by
  induction d with
  | zero =>
   intro n hd
   rw [iterK_s]; simp only [lz_packer_alike_l0b]
   refine jn ?_
   have e2 : (bl s).drop (i + n) = [] := List.drop_of_length_le (by rw [bl_length]; omega)
   have e3 : lcp ((bl s).drop (f + n)) [] = 0 := by cases (bl s).drop (f + n) <;> rfl
   rw [show IntKind.wrap .i64 ((i : Int) + (n : Int)) = ((i + n : Nat) : Int) by rw [Gx.w64 _ (by omega)]; omega]
   refine bnd rfl (bnd (ldS_at g rfl) (ifn (by simp; omega) (ifn (by decide) ?_)))
   rw [h3, e2, e3]; rfl
  | succ d ih =>
   intro n hd
   rw [iterK_s]; simp only [lz_packer_alike_l0b]
   refine jn ?_
   obtain ⟨a, ha⟩ := isome (l := bl s) (i := f + n) (by rw [bl_length]; omega)
   obtain ⟨b, hb⟩ := isome (l := bl s) (i := i + n) (by rw [bl_length]; omega)
   rw [show IntKind.wrap .i64 ((i : Int) + (n : Int)) = ((i + n : Nat) : Int) by rw [Gx.w64 _ (by omega)]; omega, show IntKind.wrap .i64 ((f : Int) + (n : Int)) = ((f + n : Nat) : Int) by rw [Gx.w64 _ (by omega)]; omega]
   refine bnd rfl (bnd (ldS_at g rfl) (ifp (by simp; omega) (bnd rfl (bnd (ldS_at g rfl) (bnd (idxS_of ha) (bnd rfl (bnd (ldS_at g rfl) (bnd (idxS_of hb) ?_))))))))
   rw [dropc ha, dropc hb]
   unfold lcp
   by_cases c : a = b
   ·rw [if_pos c]
    refine ifp (by rw [c]; simp) ?_
    rw [Gx.w1 (by omega), ih (n + 1) (by omega)]
    congr 3
    rw [show f + (n + 1) = f + n + 1 by omega, show i + (n + 1) = i + n + 1 by omega]
    omega
   ·rw [if_neg c]
    refine ifn ?_ ?_
    ·have : ¬ a.toNat = b.toNat := fun q => c (UInt8.toNat_inj.1 q)
     simp; omega
    ·rw [h3]; rfl
 have := loop (s.size - i) 0 (by omega)
 rw [Nat.add_zero, Nat.add_zero, Nat.zero_add] at this
 exact this
theorem best_spec (D : CallF) {mb : Nat} (g : h.get pb = some (.cells [.string s, .map (some mb)] 75 true 0)) (hl : pb < h.next) (hm : mb < h.next) {es : List Fr} (M : MapAt keyV vI h mb es) (k4 : ∀ e ∈ es, e.1.length = 4) {i : Nat} (ha : Ahead i es) (hi : i + 4 ≤ s.size) (hs : s.size ≤ 1048576) (hk : s.size + 100 ≤ k) :
  Gx.Wp (lz_packer_best k D (some ⟨pb, 0, none⟩) (i : Int) h) fun z => z.1 = (((bestF (bl s) i es).1 : Int), ((bestF (bl s) i es).2 : Int)) ∧ Keeps h z.2 := by
 simp only [lz_packer_best]
 refine Wp.jn fun j6 h6 => ?_
 unfold lz_packer_best_l0
 obtain ⟨n0, en0⟩ : ∃ n0, n0 = min 64 i := ⟨_, rfl⟩
 have en : (if (i : Int) < 64 then (i : Int) else 64) = (n0 : Int) := by
  by_cases z : i < 64
  ·rw [if_pos (by omega)]; omega
  ·rw [if_neg (by omega)]; omega
 obtain ⟨bot, eb⟩ := iterK_of (fun _ _ _ _ _ _ => none) (lz_packer_best_l0b k D j6) (show n0 + 1 ≤ k by omega)
 rw [eb]
 have fin : Gx.Wp (j6 (some ⟨pb, 0, none⟩) (i : Int) ((bestA (bl s) i n0).1 : Int) ((bestA (bl s) i n0).2 : Int) h) fun z => z.1 = (((bestF (bl s) i es).1 : Int), ((bestF (bl s) i es).2 : Int)) ∧ Keeps h z.2 := by
  rw [h6]
  refine .call (four_spec D g hl hi hs) fun r7 ⟨q7, k7⟩ => ?_
  have g7 := k7.got hl g
  have M7 := M.chg k7 hm (fun f => f)
  have lm : ldM ⟨pb, 0 + 1, none⟩ h = some (some mb) := ldM_at g rfl
  refine .bnd rfl (.bnd (ldM_at g7 rfl) (.gp (ssw1 (by dsimp only; rw [lm]; rfl)) ?_))
  rw [q7]
  have l4 := four_len (l := bl s) (i := i) (by rw [bl_length]; omega)
  have kq : ∀ e ∈ es, keyEq (keyV (four (bl s) i)) (keyV e.1) = some (decide (e.1 = four (bl s) i)) := fun e he => keyEq_V (by rw [l4, k4 e he])
  have lk := M7.look kq (dec := decI .i64) (dv := fun n : Nat => (n : Int)) (fun v => rfl) (z := .int .i64 0) (z0 := 0) rfl
  refine .bnd lk (Wp.jn fun j16 h16 => Wp.jn fun j24 h24 => ?_)
  have hb := bestA_ok (bl s) i (min 64 i) (by omega) (by omega)
  have ebF : bestF (bl s) i es = match lkM (four (bl s) i) es with
   | some v => if i - v ≤ 65535 ∧ (bestA (bl s) i n0).2 < lcp ((bl s).drop v) ((bl s).drop i) then (i - v, lcp ((bl s).drop v) ((bl s).drop i)) else bestA (bl s) i n0
   | none => bestA (bl s) i n0 := by rw [en0]; rfl
  cases hv : lkM (four (bl s) i) es with
  | none =>
   refine .ifn (by simp) ?_
   rw [h24]
   refine .ifn (by simp) ?_
   rw [h16]
   exact .of ⟨by rw [ebF, hv], k7⟩
  | some v =>
   obtain ⟨e, he, _, e2⟩ := lkM_mem hv
   have hvi := ha e he
   have ebF : bestF (bl s) i es = if i - v ≤ 65535 ∧ (bestA (bl s) i n0).2 < lcp ((bl s).drop v) ((bl s).drop i) then (i - v, lcp ((bl s).drop v) ((bl s).drop i)) else bestA (bl s) i n0 := by rw [ebF, hv]
   refine .ifp rfl ?_
   rw [h24]
   simp only []
   rw [show IntKind.wrap .i64 ((i : Int) - (v : Int)) = ((i - v : Nat) : Int) by rw [Gx.w64 _ (by omega)]; omega]
   by_cases c1 : i - v ≤ 65535
   ·refine .ifp (by simp; omega) (.bnd (alike_spec D g7 (by omega) (by omega) hs (by omega)) ?_)
    by_cases c2 : (bestA (bl s) i n0).2 < lcp ((bl s).drop v) ((bl s).drop i)
    ·rw [if_pos ⟨c1, c2⟩] at ebF
     rw [h16]
     exact .ifp (by simp; omega) (.of ⟨by rw [ebF], k7⟩)
    ·rw [if_neg (fun q => c2 q.2)] at ebF
     rw [h16]
     exact .ifn (by simp; omega) (.of ⟨by rw [ebF], k7⟩)
   ·rw [if_neg (fun q => c1 q.1)] at ebF
    refine .ifn (by simp; omega) ?_
    rw [h16]
    exact .of ⟨by rw [ebF], k7⟩
 have loop : ∀ d n : Nat, n + d = n0 → Gx.Wp (iterK bot (d + 1) (lz_packer_best_l0b k D j6) (some ⟨pb, 0, none⟩) (i : Int) ((bestA (bl s) i n).1 : Int) ((bestA (bl s) i n).2 : Int) ((n + 1 : Nat) : Int) h) fun z => z.1 = (((bestF (bl s) i es).1 : Int), ((bestF (bl s) i es).2 : Int)) ∧ Keeps h z.2 := fun d => by
  induction d with
  | zero =>
   intro n hd
   rw [iterK_s]; simp only [lz_packer_best_l0b]
   rw [en]
   refine .ifn (by simp; omega) ?_
   obtain rfl : n = n0 := by omega
   exact fin
  | succ d ih =>
   intro n hd
   rw [iterK_s]; simp only [lz_packer_best_l0b]
   rw [en]
   refine .ifp (by simp; omega) (Wp.jn fun j39 h39 => ?_)
   rw [show IntKind.wrap .i64 ((i : Int) - ((n + 1 : Nat) : Int)) = ((i - (n + 1) : Nat) : Int) by rw [Gx.w64 _ (by omega)]; omega]
   refine .bnd (alike_spec D g (by omega) (by omega) hs (by omega)) ?_
   have := ih (n + 1) (by omega)
   rw [h39]
   dsimp only
   rw [Gx.w1 (by omega)]
   unfold bestA at this
   by_cases c : (bestA (bl s) i n).2 < lcp ((bl s).drop (i - (n + 1))) ((bl s).drop i)
   ·rw [if_pos c] at this
    exact .ifp (by simp; omega) this
   ·rw [if_neg c] at this
    exact .ifn (by simp; omega) this
 exact loop n0 0 (by omega)
end
end Ge
namespace Ge
open Go Gx
structure WB (H : AHeap) (wb : Nat) (o : Slc) (out : List UInt8) : Prop where
 g : H.get wb = some (.cells [.slice o.a o.len o.cap] 78 true 0)
 A : Acc encB 5 (wb + 1) H o out
 lt : wb < H.next
section
variable {k wb : Nat} {H H' : AHeap} {o : Slc} {out : List UInt8} {D : CallF}
theorem WB.keeps (B : WB H wb o out) (c : Keeps H H') : WB H' wb o out := ⟨c.got B.lt B.g, B.A.keeps c, Nat.lt_of_lt_of_le B.lt c.nx⟩
theorem WB.chg {S : Nat → Prop} (B : WB H wb o out) (c : Chg S H H') (h1 : ∀ y, S y → y < wb ∨ H.next ≤ y) : WB H' wb o out := by
 refine ⟨c.got B.lt (fun q => ?_) B.g, B.A.chg c fun a ha q => ?_, Nat.lt_of_lt_of_le B.lt c.nx⟩
 ·have := h1 _ q; have := B.lt; omega
 ·have := h1 _ q; have := B.A.lt a ha; omega
theorem WB.app (B : WB H wb o out) {ys : List UInt8} (hs : 2 * (out.length + ys.length) * 1 ≤ 281474976710656) :
  ∃ o' h1, appendA 1 1 5 H o (ys.map encB) ys.length = some (o', h1) ∧ ∃ h2, st1 ⟨wb, 0, none⟩ (.slice o'.a o'.len o'.cap) h1 = some h2 ∧ WB h2 wb o' (out ++ ys) ∧ Chg (fun y => wb ≤ y) H h2 := by
 obtain ⟨o', h1, a, A', c, d⟩ := B.A.app (fun _ => rfl) ys hs (by decide) B.lt
 have no : ¬ ofS o wb := fun ⟨z, hz, e⟩ => by have := (B.A.lt z hz).2; omega
 have g1 := c.got B.lt no B.g
 have nx := c.nx
 refine ⟨o', h1, a, _, st1_of g1 (by simp) rfl, ⟨by simp, A'.chg (Chg.set (S := (· = wb)) (.inr rfl)) fun z hz e => ?_, by show wb < h1.next; have := B.lt; omega⟩, ?_⟩
 ·have e : z.block = wb := e
  have := (A'.lt z hz).2
  omega
 ·refine Chg.trans (c.wk fun y _ ⟨z, hz, e⟩ => by have := (B.A.lt z hz).2; omega) (Chg.set (.inr (Nat.le_refl _)))
theorem atWb {h h' : AHeap} (c : Keeps h h') : Chg (fun y => wb ≤ y) h h' := Chg.keeps c
theorem WB.put {R : Type} {Q : R → Prop} (B : WB H wb o out) {ys : List UInt8} (hs : 2 * (out.length + ys.length) * 1 ≤ 281474976710656) {f : AHeap → Option R} (J : ∀ o' h2, WB h2 wb o' (out ++ ys) → Chg (fun y => wb ≤ y) H h2 → Gx.Wp (f h2) Q) :
  Gx.Wp ((appendA 1 1 5 H o (ys.map encB) ys.length).bind fun r => (some (⟨wb, 0, none⟩ : Addr)).bind fun p => (st1 (⟨p.block, p.off + 0, none⟩ : Addr) (.slice r.1.a r.1.len r.1.cap) r.2).bind f) Q := by
 obtain ⟨o', h1, a, h2, b, B', c⟩ := B.app hs
 exact .bnd a (.bnd rfl (.bnd b (J o' h2 B' c)))
theorem rdS_bytes {h : AHeap} {n : Nat} {l : List UInt8} (hn : l.length = n) (g : H = h.new (.cells (l.map encB) 5 true 0)) : Gx.rdS 1 ⟨some ⟨h.next, 0, some 0⟩, n, n⟩ H = some (l.map encB) := by
 subst hn; subst g
 have := rdL_all (h := h.new (.cells (l.map encB) 5 true 0)) (b := h.next) (c := l.map encB) (e := 5) (r := true) (fz := 0) (by simp)
 simpa [Gx.rdS] using this
theorem wrap8 (n : Nat) : Value.int .u8 (IntKind.wrap .u8 (n : Int)) = encB (UInt8.ofNat n) := by
 unfold encB
 rw [UInt8.toNat_ofNat', IntKind.wrap_u8]
 rfl
theorem wnumber_spec (B : WB H wb o out) {n : Nat} (hn : n ≤ 3000000) (ho : out.length ≤ 4000000) (hk : 20000 ≤ k) :
  Gx.Wp (lz_writer_number k D (some ⟨wb, 0, none⟩) (n : Int) H) fun z => ∃ o', WB z.2 wb o' (out ++ numB n) ∧ Chg (fun y => wb ≤ y) H z.2 := by
 simp only [lz_writer_number]
 by_cases c : n < 15
 ·refine .ifp (by simp; omega) (.of ⟨o, ?_, Chg.refl _ _⟩)
  rw [numB, if_pos c, List.append_nil]; exact B
 ·refine .ifn (by simp; omega) (Wp.jn fun j4 h4 => ?_)
  rw [show IntKind.wrap .i64 ((n : Int) - 15) = ((n - 15 : Nat) : Int) by rw [Gx.w64 _ (by omega)]; omega]
  unfold lz_writer_number_l0
  obtain ⟨q, eq⟩ : ∃ q, q = (n - 15) / 255 := ⟨_, rfl⟩
  obtain ⟨bot, eb⟩ := iterK_of (fun _ _ _ => none) (lz_writer_number_l0b k D j4) (show q + 1 ≤ k by omega)
  rw [eb, numB, if_neg c]
  have loop : ∀ (d : Nat) (o : Slc) (out : List UInt8) (H1 : AHeap) (m : Nat), m / 255 = d → m ≤ 3000000 → out.length + d ≤ 5000000 → WB H1 wb o out → Chg (fun y => wb ≤ y) H H1 →
    Gx.Wp (iterK bot (d + 1) (lz_writer_number_l0b k D j4) (some ⟨wb, 0, none⟩) (m : Int) H1) fun z => ∃ o', WB z.2 wb o' (out ++ (List.replicate d 255 ++ [UInt8.ofNat (m % 255)])) ∧ Chg (fun y => wb ≤ y) H z.2 := fun d => by
   induction d with
   | zero =>
    intro o out H1 m hd hm hl B cc
    rw [iterK_s]; simp only [lz_writer_number_l0b]
    refine .ifn (by simp; omega) ?_
    rw [h4]
    refine .bnd rfl (.bnd (sldL_at B.g rfl) (Wp.newE fun h7 e7 k7 n7 g7 => ?_))
    rw [wrap8] at e7
    refine .bnd (rdS_bytes (l := [UInt8.ofNat m]) rfl e7) ((B.keeps k7).put (ys := [UInt8.ofNat m]) (by simp; omega) fun o' h2 B' c' => .of ⟨o', ?_, (cc.trans (atWb k7)).trans c'⟩)
    rw [List.replicate_zero, List.nil_append, show m % 255 = m by omega]
    exact B'
   | succ d ih =>
    intro o out H1 m hd hm hl B cc
    rw [iterK_s]; simp only [lz_writer_number_l0b]
    refine .ifp (by simp; omega) (.bnd rfl (.bnd (sldL_at B.g rfl) (Wp.newE fun h7 e7 k7 n7 g7 => ?_)))
    refine .bnd (rdS_bytes (l := [255]) rfl e7) ((B.keeps k7).put (ys := [255]) (by simp; omega) fun o' h2 B' c' => ?_)
    rw [show IntKind.wrap .i64 ((m : Int) - 255) = ((m - 255 : Nat) : Int) by rw [Gx.w64 _ (by omega)]; omega]
    refine .mono (ih o' (out ++ [255]) h2 (m - 255) (by omega) (by omega) (by simp; omega) B' ((cc.trans (atWb k7)).trans c')) fun z ⟨o2, w1, w2⟩ => ⟨o2, ?_, w2⟩
    have e : out ++ [255] ++ (List.replicate d 255 ++ [UInt8.ofNat ((m - 255) % 255)]) = out ++ (List.replicate (d + 1) 255 ++ [UInt8.ofNat (m % 255)]) := by
     rw [show (m - 255) % 255 = m % 255 by omega, List.replicate_succ]
     simp
    rw [← e]
    exact w1
  have := loop q o out H (n - 15) eq.symm (by omega) (by omega) B (Chg.refl _ _)
  rw [← eq]
  exact this
theorem tokOr : ∀ a b : Fin 16, Go.bits .or .i64 (IntKind.wrap .i64 ((a.val : Int) * 16)) (b.val : Int) = ((a.val * 16 + b.val : Nat) : Int) := by decide +kernel
theorem numB_len (n : Nat) : (numB n).length ≤ n + 1 := by
 unfold numB
 split
 ·simp
 ·simp; omega
theorem sequence_spec (B : WB H wb o out) (ls : ByteArray) (hls : ls.size ≤ 1048576) {d n : Nat} (hd : d ≤ 65535) (hn : 4 ≤ n ∨ d = 0) (hn2 : n ≤ 1048576) (ho : out.length ≤ 1500000) (hk : 20000 ≤ k) :
  Gx.Wp (lz_writer_sequence k D (some ⟨wb, 0, none⟩) ls (d : Int) (n : Int) H) fun z => ∃ o', WB z.2 wb o' (out ++ seqB (bl ls) d n) ∧ Chg (fun y => wb ≤ y) H z.2 := by
 simp only [lz_writer_sequence]
 obtain ⟨a, ea⟩ : ∃ a, a = min ls.size 15 := ⟨_, rfl⟩
 have e1 : (if (15 : Int) < (ls.size : Int) then (15 : Int) else (ls.size : Int)) = (a : Int) := by
  by_cases z : 15 < ls.size
  ·rw [if_pos (by omega)]; omega
  ·rw [if_neg (by omega)]; omega
 rw [e1]
 refine Wp.jn fun j8 h8 => ?_
 have J : ∀ t : Int, Value.int .u8 (IntKind.wrap .u8 t) = encB (tokB (bl ls).length d n) → Gx.Wp (j8 (some ⟨wb, 0, none⟩) ls (d : Int) (n : Int) t H) fun z => ∃ o', WB z.2 wb o' (out ++ seqB (bl ls) d n) ∧ Chg (fun y => wb ≤ y) H z.2 := by
  intro t ht
  rw [h8]
  have ll : (bl ls).length = ls.size := bl_length ls
  have lnb := numB_len ls.size
  have lnb2 := numB_len (n - 4)
  refine .bnd rfl (.bnd (sldL_at B.g rfl) (Wp.newE fun h11 e11 k11 n11 g11 => ?_))
  rw [ht] at e11
  refine .bnd (rdS_bytes (l := [tokB (bl ls).length d n]) rfl e11) ((B.keeps k11).put (ys := [tokB (bl ls).length d n]) (by simp; omega) fun o1 h15 B1 c1 => ?_)
  have x1 : Chg (fun y => wb ≤ y) H h15 := (atWb k11).trans c1
  refine .call (wnumber_spec B1 (by omega) (by simp; omega) hk) fun r16 ⟨o2, B2, c2⟩ => ?_
  refine .bnd rfl (.bnd (sldL_at B2.g rfl) ?_)
  rw [bytesL_bl]
  refine B2.put (ys := bl ls) (by simp; omega) fun o3 h21 B3 c3 => ?_
  have x3 : Chg (fun y => wb ≤ y) H h21 := (x1.trans c2).trans c3
  have es : out ++ [tokB (bl ls).length d n] ++ numB ls.size ++ bl ls = out ++ (tokB (bl ls).length d n :: numB (bl ls).length ++ bl ls) := by rw [ll]; simp
  rw [es] at B3
  by_cases c : d = 0
  ·refine .ifn (by simp; omega) (.of ⟨o3, ?_, x3⟩)
   subst c
   unfold seqB
   rw [if_neg (by omega), List.append_nil]
   exact B3
  ·refine .ifp (by simp; omega) (.bnd rfl (.bnd (sldL_at B3.g rfl) (Wp.newE fun h24 e24 k24 n24 g24 => ?_)))
   rw [show Int.fdiv (d : Int) 256 = ((d / 256 : Nat) : Int) by rw [Int.fdiv_eq_ediv_of_nonneg _ (by decide)]; omega, wrap8, wrap8] at e24
   have e25 : UInt8.ofNat d = UInt8.ofNat (d % 256) := by
    apply UInt8.toNat_inj.1
    rw [UInt8.toNat_ofNat', UInt8.toNat_ofNat']; omega
   have lo3 : (out ++ (tokB (bl ls).length d n :: numB (bl ls).length ++ bl ls)).length ≤ out.length + 1 + (ls.size + 1) + ls.size := by
    simp only [List.length_append, List.length_cons]; rw [ll]; omega
   refine .bnd (rdS_bytes (l := [UInt8.ofNat d, UInt8.ofNat (d / 256)]) rfl e24) ((B3.keeps k24).put (ys := [UInt8.ofNat d, UInt8.ofNat (d / 256)]) (by simp only [List.length_cons, List.length_nil]; omega) fun o4 h28 B4 c4 => ?_)
   rw [show IntKind.wrap .i64 ((n : Int) - 4) = ((n - 4 : Nat) : Int) by rw [Gx.w64 _ (by omega)]; omega]
   refine .call (wnumber_spec B4 (by omega) (by rw [List.length_append]; simp only [List.length_cons, List.length_nil]; omega) hk) fun r29 ⟨o5, B5, c5⟩ => .of ⟨o5, ?_, ((x3.trans (atWb k24)).trans c4).trans c5⟩
   unfold seqB
   rw [if_pos (by omega), ← e25]
   have : out ++ (tokB (bl ls).length d n :: numB (bl ls).length ++ bl ls) ++ [UInt8.ofNat d, UInt8.ofNat (d / 256)] ++ numB (n - 4) = out ++ (tokB (bl ls).length d n :: numB (bl ls).length ++ bl ls ++ UInt8.ofNat d :: UInt8.ofNat (d / 256) :: numB (n - 4)) := by simp
   rw [← this]
   exact B5
 have ll : (bl ls).length = ls.size := bl_length ls
 by_cases c : d = 0
 ·refine .ifn (by simp; omega) (J _ ?_)
  have : IntKind.wrap .i64 ((a : Int) * 16) = ((a * 16 : Nat) : Int) := by rw [Gx.w64 _ (by omega)]; omega
  rw [this, wrap8]
  unfold tokB
  rw [ll, if_neg (by omega), ea]; rfl
 ·refine .ifp (by simp; omega) ?_
  obtain ⟨b, eb⟩ : ∃ b, b = min (n - 4) 15 := ⟨_, rfl⟩
  have hn' := hn.resolve_right c
  have e2 : (if (15 : Int) < IntKind.wrap .i64 ((n : Int) - 4) then (15 : Int) else IntKind.wrap .i64 ((n : Int) - 4)) = (b : Int) := by
   rw [Gx.w64 _ (by omega)]
   by_cases z : 15 < n - 4
   ·rw [if_pos (by omega)]; omega
   ·rw [if_neg (by omega)]; omega
  simp only [e2]
  refine J _ ?_
  have eo : Go.bits .or .i64 (IntKind.wrap .i64 ((a : Int) * 16)) (b : Int) = ((a * 16 + b : Nat) : Int) := tokOr ⟨a, by omega⟩ ⟨b, by omega⟩
  rw [eo, wrap8]
  unfold tokB
  rw [ll, if_pos (by omega), ea, eb]
end
end Ge
namespace Ge
open Go Gx
theorem seqB_len {l : List UInt8} {d n : Nat} (hn : 4 ≤ n) : (seqB l d n).length ≤ 2 * (l.length + n) := by
 have h1 := numB_len l.length
 have h2 := numB_len (n - 4)
 unfold seqB
 split
 ·simp only [List.length_append, List.length_cons]; omega
 ·simp only [List.length_append, List.length_cons, List.length_nil]; omega
structure PK (h0 H : AHeap) (mb pb wb : Nat) (s : ByteArray) (es : List Fr) (o : Slc) (out : List UInt8) : Prop where
 kp : Keeps h0 H
 m : MapAt keyV vI H mb es
 p : H.get pb = some (.cells [.string s, .map (some mb)] 75 true 0)
 W : WB H wb o out
 lm : mb < pb
 lp : pb < wb
 lh : h0.next ≤ mb
 k4 : ∀ e ∈ es, e.1.length = 4
section
variable {k mb pb wb : Nat} {s : ByteArray} {es : List Fr} {o : Slc} {out : List UInt8} {D : CallF} {h0 H H' : AHeap}
theorem PK.keeps (P : PK h0 H mb pb wb s es o out) (c : Keeps H H') : PK h0 H' mb pb wb s es o out :=
 have := P.W.lt; have := P.lm; have := P.lp
 ⟨P.kp.trans c, P.m.chg c (by omega) (fun f => f), c.got (by omega) P.p, P.W.keeps c, P.lm, P.lp, P.lh, P.k4⟩
theorem keepsAll {h0 H H' : AHeap} {n : Nat} (k : Keeps h0 H) (c : Chg (fun y => n ≤ y) H H') (h : h0.next ≤ n) : Keeps h0 H' := k.keepsS c fun y hy => by have hy : n ≤ y := hy; omega
theorem put_loop {Q : (ByteArray × Int) × AHeap → Prop} {rec20 : ByteArray → (Option Addr) → (Option Addr) → Int → Int → AHeap → Option ((ByteArray × Int) × AHeap)} (kept : Int) (step : Nat) (hs : s.size ≤ 1048576) (hst : step ≤ 1048576) (bot) :
  ∀ (d j i : Nat) (es : List Fr) (H : AHeap), j + d = step → i + d ≤ s.size → PK h0 H mb pb wb s es o out → (∀ H', PK h0 H' mb pb wb s (putN (bl s) d i es) o out → Gx.Wp (rec20 s (some ⟨pb, 0, none⟩) (some ⟨wb, 0, none⟩) kept ((i + d : Nat) : Int) H') Q) →
  Gx.Wp (iterK bot (d + 1) (lz_Pack_l1b k D rec20) s (some ⟨pb, 0, none⟩) (some ⟨wb, 0, none⟩) kept (i : Int) (step : Int) (j : Int) H) Q := by
 intro d
 induction d with
 | zero =>
  intro j i es H hd hi P J
  rw [iterK_s]; simp only [lz_Pack_l1b]
  exact .ifn (by simp; omega) (J H P)
 | succ d ih =>
  intro j i es H hd hi P J
  rw [iterK_s]; simp only [lz_Pack_l1b]
  refine .ifp (by simp; omega) (Wp.jn fun j48 h48 => ?_)
  have go : ∀ H', PK h0 H' mb pb wb s (put1 (bl s) i es) o out → Gx.Wp (j48 s (some ⟨pb, 0, none⟩) (some ⟨wb, 0, none⟩) kept (i : Int) (step : Int) (j : Int) H') Q := fun H' P' => by
   rw [h48]
   dsimp only
   rw [Gx.w1 (by omega), Gx.w1 (by omega)]
   refine ih (j + 1) (i + 1) _ H' (by omega) (by omega) P' fun H'' P'' => ?_
   rw [show i + 1 + d = i + (d + 1) by omega]
   exact J H'' P''
  rw [show IntKind.wrap .i64 ((i : Int) + 4) = ((i + 4 : Nat) : Int) by rw [Gx.w64 _ (by omega)]; omega]
  have wl := P.W.lt; have ml := P.lm; have pl := P.lp
  by_cases c : i + 4 ≤ s.size
  ·refine .ifp (by simp; omega) (.call (four_spec D P.p (by omega) c hs) fun r49 ⟨q49, k49⟩ => ?_)
   have P9 := P.keeps k49
   refine .bnd rfl (.bnd (ldM_at P9.p rfl) (.gp (ssw1 (by rw [ldM_at (sp := none) (o := 0 + 1) P.p rfl]; rfl)) (.bnd rfl ?_)))
   rw [q49]
   have l4 := four_len (l := bl s) (i := i) (by rw [bl_length]; omega)
   obtain ⟨h', u1, u2, u3, u4⟩ := P9.m.upd (n := four (bl s) i) (fun e he => keyEq_V (by rw [l4, P.k4 e he])) i
   refine .bnd u1 (go h' ⟨keepsAll P9.kp (u3.wk fun y _ e => (by have e : y = mb := e; omega : mb ≤ y)) P.lh, ?_, u3.got (by have := P9.W.lt; omega) (by omega) P9.p, P9.W.chg u3 fun y e => .inl (by have e : y = mb := e; omega), P.lm, P.lp, P.lh, ?_⟩)
   ·unfold put1
    rw [if_pos (by rw [bl_length]; exact c)]
    exact u2
   ·unfold put1
    rw [if_pos (by rw [bl_length]; exact c)]
    intro e he
    rcases ptM_mem he with ⟨g, _⟩ | g
    ·rw [g]; exact l4
    ·exact P.k4 e g
  ·refine .ifn (by simp; omega) (go H ?_)
   unfold put1
   rw [if_neg (by rw [bl_length]; exact c)]
   exact P
theorem pack_loop {j8 : ByteArray → (Option Addr) → Int → AHeap → Option ((ByteArray × Int) × AHeap)}
  (hj : ∀ kept H o out, kept ≤ s.size → WB H wb o out → out.length ≤ 1000000 → Keeps h0 H → Gx.Wp (j8 s (some ⟨wb, 0, none⟩) (kept : Int) H) fun z => z.1 = (⟨⟨out ++ seqB ((bl s).drop kept) 0 0⟩⟩, 0) ∧ Keeps h0 z.2) (hs : s.size ≤ 500000) (hk : 600000 ≤ k) (bot) :
  ∀ (f i kept : Nat) (es : List Fr) (o : Slc) (out : List UInt8) (H : AHeap), s.size < i + f → i ≤ s.size → kept ≤ i → Ahead i es → out.length ≤ 2 * kept → PK h0 H mb pb wb s es o out →
  Gx.Wp (iterK bot f (lz_Pack_l0b k D j8) s (some ⟨pb, 0, none⟩) (some ⟨wb, 0, none⟩) (kept : Int) (i : Int) H) fun z => z.1 = (⟨⟨packL (bl s) f i kept es out⟩⟩, 0) ∧ Keeps h0 z.2 := by
 intro f
 induction f with
 | zero => intro i kept es o out H h1 h2; omega
 | succ f ih =>
  intro i kept es o out H h1 h2 h3 ha ho P
  rw [iterK_s]; simp only [lz_Pack_l0b]
  have wl := P.W.lt; have ml := P.lm; have pl := P.lp
  have sl : (bl s).length = s.size := bl_length s
  rw [show IntKind.wrap .i64 ((i : Int) + 4) = ((i + 4 : Nat) : Int) by rw [Gx.w64 _ (by omega)]; omega]
  unfold packL
  rw [sl]
  by_cases c : i + 4 < s.size
  rotate_left
  ·rw [if_neg c]
   exact .ifn (by simp; omega) (hj kept H o out (by omega) P.W (by omega) P.kp)
  rw [if_pos c]
  refine .ifp (by simp; omega) (.call (best_spec D P.p (by omega) (by omega) P.m P.k4 ha (by omega) (by omega) (by omega)) fun r21 ⟨q21, k21⟩ => ?_)
  have P1 := P.keeps k21
  rw [q21]
  obtain ⟨m, em⟩ : ∃ m, m = min (bestF (bl s) i es).2 (s.size - 1 - i) := ⟨_, rfl⟩
  rw [← em]
  have et : IntKind.wrap .i64 ((IntKind.wrap .i64 ((s.size : Int) - 1)) - (i : Int)) = ((s.size - 1 - i : Nat) : Int) := by rw [Gx.w64 ((s.size : Int) - 1) (by omega), Gx.w64 _ (by omega)]; omega
  have em2 : (if (((s.size - 1 - i : Nat) : Int)) < ((bestF (bl s) i es).2 : Int) then (((s.size - 1 - i : Nat) : Int)) else ((bestF (bl s) i es).2 : Int)) = (m : Int) := by
   by_cases z : s.size - 1 - i < (bestF (bl s) i es).2
   ·rw [if_pos (by omega)]; omega
   ·rw [if_neg (by omega)]; omega
  simp only [et, em2]
  refine Wp.jn fun j30 h30 => ?_
  have bo := bestF_ok (s := bl s) ha
  by_cases c4 : 4 ≤ m
  ·rw [if_pos c4]
   rcases bo with b | ⟨b1, b2, b3, b4⟩
   ·omega
   refine .ifp (by simp; omega) ?_
   have es1 : Gx.subS s (some (kept : Int)) (some (i : Int)) = some ⟨⟨((bl s).take i).drop kept⟩⟩ := subS_of rfl rfl h3 h2
   have sz1 : (⟨⟨((bl s).take i).drop kept⟩⟩ : ByteArray).size = i - kept := by rw [size_mk]; simp; omega
   refine .bnd es1 (.call (sequence_spec P1.W ⟨⟨((bl s).take i).drop kept⟩⟩ (by omega) b2 (.inl c4) (by omega) (by omega) (by omega)) fun r57 ⟨o', W', c'⟩ => ?_)
   rw [bl_mk] at W'
   have P2 : PK h0 r57.2 mb pb wb s es o' (out ++ seqB (((bl s).take i).drop kept) (bestF (bl s) i es).1 m) :=
    ⟨keepsAll P1.kp c' (by have := P.lh; omega), P1.m.chg c' (by have := P1.W.lt; omega) (by omega), c'.got (by have := P1.W.lt; omega) (by omega) P1.p, W', P.lm, P.lp, P.lh, P.k4⟩
   rw [show IntKind.wrap .i64 ((i : Int) + (m : Int)) = ((i + m : Nat) : Int) by rw [Gx.w64 _ (by omega)]; omega, h30]
   dsimp only
   unfold lz_Pack_l1
   obtain ⟨bot2, eb2⟩ := iterK_of (fun _ _ _ _ _ _ _ _ => none) (lz_Pack_l1b k D (iterK bot f (lz_Pack_l0b k D j8))) (show m + 1 ≤ k by omega)
   rw [eb2]
   have sq := seqB_len (l := ((bl s).take i).drop kept) (d := (bestF (bl s) i es).1) c4
   have sl2 : (((bl s).take i).drop kept).length = i - kept := by simp; omega
   rw [show (0 : Int) = ((0 : Nat) : Int) from rfl]
   refine put_loop _ m (by omega) (by omega) bot2 m 0 i es r57.2 (by omega) (by omega) P2 fun H' P3 => ?_
   exact ih (i + m) (i + m) _ o' _ H' (by omega) (by omega) (Nat.le_refl _) (putN_ahead m i ha) (by rw [List.length_append]; omega) P3
  ·rw [if_neg c4]
   refine .ifn (by simp; omega) ?_
   rw [h30]
   dsimp only
   unfold lz_Pack_l1
   obtain ⟨bot2, eb2⟩ := iterK_of (fun _ _ _ _ _ _ _ _ => none) (lz_Pack_l1b k D (iterK bot f (lz_Pack_l0b k D j8))) (show 1 + 1 ≤ k by omega)
   rw [eb2]
   rw [show (0 : Int) = ((0 : Nat) : Int) from rfl]
   refine put_loop _ 1 (by omega) (by omega) bot2 1 0 i es r21.2 (by omega) (by omega) P1 fun H' P3 => ?_
   exact ih (i + 1) kept _ o _ H' (by omega) (by omega) (by omega) (putN_ahead 1 i ha) ho P3
end
theorem pack_spec {k : Nat} {s : ByteArray} {h : AHeap} (D : CallF) (hs : s.size ≤ 500000) (hk : 600000 ≤ k) :
  Gx.Wp (lz_Pack k D s h) fun z => z.1 = (⟨⟨packA (bl s)⟩⟩, 0) ∧ Keeps h z.2 := by
 simp only [lz_Pack]
 refine .ifn (by simp; omega) (Wp.newE fun h1 e1 k1 n1 g1 => Wp.newE fun h2 e2 k2 n2 g2 => Wp.newE fun h3 e3 k3 n3 g3 => Wp.jn fun j8 h8 => ?_)
 unfold lz_Pack_l0
 obtain ⟨bot, eb⟩ := iterK_of (fun _ _ _ _ _ _ => none) (lz_Pack_l0b k D j8) (show s.size + 1 ≤ k by omega)
 rw [eb]
 have P : PK h h3 h.next h1.next h2.next s [] ⟨none, 0, 0⟩ [] :=
  ⟨(k1.trans k2).trans k3, Keeps.got (k2.trans k3) (by omega) g1, k3.got (by omega) g2, ⟨g3, Acc.nil _ _ _ _, by omega⟩, by omega, by omega, Nat.le_refl _, fun e he => by cases he⟩
 refine .mono (pack_loop ?_ hs hk bot (s.size + 1) 0 0 [] ⟨none, 0, 0⟩ [] h3 (by omega) (by omega) (by omega) (fun e he => by cases he) (by simp) P) fun z ⟨w1, w2⟩ => ⟨?_, w2⟩
 ·intro kept H o out hkept B hl kp
  rw [h8]
  have es1 : Gx.subS s (some (kept : Int)) none = some ⟨⟨((bl s).take s.size).drop kept⟩⟩ := subS_of rfl rfl hkept (Nat.le_refl _)
  rw [List.take_of_length_le (by rw [bl_length]; exact Nat.le_refl _)] at es1
  have sz1 : (⟨⟨(bl s).drop kept⟩⟩ : ByteArray).size ≤ s.size := by rw [size_mk, List.length_drop, bl_length]; omega
  refine .bnd es1 (.call (sequence_spec (d := 0) (n := 0) B ⟨⟨(bl s).drop kept⟩⟩ (by omega) (by omega) (.inr rfl) (by omega) (by omega) (by omega)) fun r10 ⟨o', B', c'⟩ => ?_)
  exact .bnd rfl (.bnd (sldL_at B'.g rfl) (.bnd (acc_bytes B'.A) (.of ⟨rfl, keepsAll kp c' (by omega)⟩)))
 ·rw [w1, packA, bl_length]
end Ge
namespace Ge.B
open Go Gx Go.Proofs
theorem rot_spec (k0 : Nat) (D : CallF) (x : UInt32) (h : AHeap) {q : Int} (n : Nat) (hn : 0 < n ∧ n < 32) (hq : Go.bits .and .u64 (IntKind.wrap .u64 q) 31 = ((32 - n : Nat) : Int)) : math_bits_RotateLeft32 k0 D (x.toNat : Int) q h = some (((rotr x n).toNat : Int), h) := by
 simp only [math_bits_RotateLeft32, hq]
 rw [if_pos (by omega)]
 have e2 : IntKind.wrap .u64 (32 - ((32 - n : Nat) : Int)) = ((n : Nat) : Int) := by
  rw [show (32 : Int) - ((32 - n : Nat) : Int) = (n : Int) by omega]
  exact wr_u64 _ (by omega) (by omega)
 rw [e2, if_pos (by omega), Int.toNat_natCast, Int.toNat_natCast]
 have m1 : min (32 - n) (IntKind.bits .u32) = 32 - n := Nat.min_eq_left (by show 32 - n ≤ 32; omega)
 have m2 : min n (IntKind.bits .u32) = n := Nat.min_eq_left (by show n ≤ 32; omega)
 rw [m1, m2]
 have p1 : (2 : Int) ^ (32 - n) = ((2 ^ (32 - n) : Nat) : Int) := by simp
 have p2 : (2 : Int) ^ n = ((2 ^ n : Nat) : Int) := by simp
 rw [p1, p2, shlU x (32 - n) (by omega), shrU x n (by omega), orU]
 rfl
theorem sp_l1 (K : Nat) (D : CallF) (j) (bot) {Q : List Value × AHeap → Prop} {h0 : AHeap} {b : Slc} {blk : List UInt8} (R : Row encB h0 b blk) (hl : blk.length = 64) {wb : Nat} (hwb : h0.next ≤ wb) {f : Nat → UInt32} (hf : ∀ i, i < 16 → f i = wAt blk i)
  (hj : ∀ h, Keeps h0 h → h.get wb = some (.cells (filU f 64 16) 174 true 0) → Wp (j (some ⟨wb, 0, none⟩) h) Q) :
  ∀ (d i : Nat) (h : AHeap), i + d = 16 → Keeps h0 h → h.get wb = some (.cells (filU f 64 i) 174 true 0) → Wp (iterK bot (d + 1) (sha_spread_l1b K D j) b (some ⟨wb, 0, none⟩) (i : Int) h) Q
 | 0, i, h, hi, kp, hb => by
  obtain rfl : i = 16 := by omega
  rw [iterK_s]; simp only [sha_spread_l1b]
  exact Wp.ifn (by simp) (hj h kp hb)
 | d + 1, i, h, hi, kp, hb => by
  rw [iterK_s]; simp only [sha_spread_l1b]
  refine Wp.ifp (by simp; omega) ?_
  obtain ⟨x0, g0⟩ := isome (l := blk) (i := 4 * i) (by omega)
  obtain ⟨x1, g1⟩ := isome (l := blk) (i := 4 * i + 1) (by omega)
  obtain ⟨x2, g2⟩ := isome (l := blk) (i := 4 * i + 2) (by omega)
  obtain ⟨x3, g3⟩ := isome (l := blk) (i := 4 * i + 3) (by omega)
  have R' := R.keeps kp
  obtain ⟨q0, a0, c0⟩ := R'.ldB g0
  obtain ⟨q1, a1, c1⟩ := R'.ldB g1
  obtain ⟨q2, a2, c2⟩ := R'.ldB g2
  obtain ⟨q3, a3, c3⟩ := R'.ldB g3
  have e0 : IntKind.wrap .i64 (4 * (i : Int)) = ((4 * i : Nat) : Int) := sw64 (by omega) (by omega)
  have e1 : IntKind.wrap .i64 (((4 * i : Nat) : Int) + 1) = ((4 * i + 1 : Nat) : Int) := sw64 (by omega) (by omega)
  have e2 : IntKind.wrap .i64 (((4 * i : Nat) : Int) + 2) = ((4 * i + 2 : Nat) : Int) := sw64 (by omega) (by omega)
  have e3 : IntKind.wrap .i64 (((4 * i : Nat) : Int) + 3) = ((4 * i + 3 : Nat) : Int) := sw64 (by omega) (by omega)
  rw [e0, e1, e2, e3]
  refine Wp.bnd a0 (Wp.bnd c0 (Wp.bnd a1 (Wp.bnd c1 (Wp.bnd a2 (Wp.bnd c2 (Wp.bnd a3 (Wp.bnd c3 (Wp.bnd rfl (Wp.bnd (sidxA (by omega)) ?_)))))))))
  rw [or_bytes]
  have ev : be32 x0 x1 x2 x3 = f i := by rw [hf i (by omega)]; unfold wAt; rw [g0, g1, g2, g3]; rfl
  rw [ev]
  have hst : st1 ⟨wb, i, none⟩ (.int .u32 ((f i).toNat : Int)) h = some (h.set wb (.cells (filU f 64 (i + 1)) 174 true 0)) := by
   rw [st1_of hb (by rw [filU_length (by omega)]; omega) rfl, filU_set (by omega)]
  refine Wp.bnd hst ?_
  rw [Gx.w1 (by omega)]
  exact sp_l1 K D j bot R hl hwb hf hj d (i + 1) _ (by omega) (kp.set hwb) (sset_get _ _ _)
theorem sp_l0 (K : Nat) (D : CallF) (j) (bot) {Q : List Value × AHeap → Prop} {h0 : AHeap} {wb : Nat} (hwb : h0.next ≤ wb) {m : Nat → UInt32}
  (hj : ∀ h, Keeps h0 h → h.get wb = some (.cells (filU (sched m) 64 64) 174 true 0) → Wp (j (some ⟨wb, 0, none⟩) h) Q) :
  ∀ (d i : Nat) (h : AHeap), i + d = 64 → 16 ≤ i → Keeps h0 h → h.get wb = some (.cells (filU (sched m) 64 i) 174 true 0) → Wp (iterK bot (d + 1) (sha_spread_l0b K D j) (some ⟨wb, 0, none⟩) (i : Int) h) Q
 | 0, i, h, hi, h16, kp, hb => by
  obtain rfl : i = 64 := by omega
  rw [iterK_s]; simp only [sha_spread_l0b]
  exact Wp.ifn (by simp) (hj h kp hb)
 | d + 1, i, h, hi, h16, kp, hb => by
  rw [iterK_s]; simp only [sha_spread_l0b]
  refine Wp.ifp (by simp; omega) ?_
  have e15 : IntKind.wrap .i64 ((i : Int) - 15) = ((i - 15 : Nat) : Int) := sw64 (by omega) (by omega)
  have e2 : IntKind.wrap .i64 ((i : Int) - 2) = ((i - 2 : Nat) : Int) := sw64 (by omega) (by omega)
  have e16 : IntKind.wrap .i64 ((i : Int) - 16) = ((i - 16 : Nat) : Int) := sw64 (by omega) (by omega)
  have e7 : IntKind.wrap .i64 ((i : Int) - 7) = ((i - 7 : Nat) : Int) := sw64 (by omega) (by omega)
  rw [e15, e2, e16, e7]
  have ld : ∀ jj, jj < i → ldI .u32 ⟨wb, jj, none⟩ h = some ((sched m jj).toNat : Int) := fun jj hjj => sldI_at hb (filU_get hjj)
  refine Wp.bnd rfl (Wp.bnd (sidxA (by omega)) (Wp.bnd (ld _ (by omega)) (Wp.bnd rfl (Wp.bnd (sidxA (by omega)) (Wp.bnd (ld _ (by omega)) ?_)))))
  refine Wp.bnd (rot_spec K D _ h 7 (by decide) (by decide)) (Wp.bnd (rot_spec K D _ h 18 (by decide) (by decide)) (Wp.bnd (rot_spec K D _ h 17 (by decide) (by decide)) (Wp.bnd (rot_spec K D _ h 19 (by decide) (by decide)) ?_)))
  refine Wp.bnd rfl (Wp.bnd (sidxA (by omega)) (Wp.bnd (ld _ (by omega)) (Wp.bnd rfl (Wp.bnd (sidxA (by omega)) (Wp.bnd (ld _ (by omega)) (Wp.bnd rfl (Wp.bnd (sidxA (by omega)) ?_)))))))
  have s3 : Int.fdiv ((sched m (i - 15)).toNat : Int) 8 = ((sched m (i - 15) >>> 3).toNat : Int) := shrU _ 3 (by decide)
  have s10 : Int.fdiv ((sched m (i - 2)).toNat : Int) 1024 = ((sched m (i - 2) >>> 10).toNat : Int) := shrU _ 10 (by decide)
  simp only [s3, s10, xorU, addU]
  have ev : sched m (i - 16) + (rotr (sched m (i - 15)) 7 ^^^ rotr (sched m (i - 15)) 18 ^^^ sched m (i - 15) >>> 3) + sched m (i - 7) + (rotr (sched m (i - 2)) 17 ^^^ rotr (sched m (i - 2)) 19 ^^^ sched m (i - 2) >>> 10) = sched m i := (sched_hi h16).symm
  rw [ev]
  have hst : st1 ⟨wb, i, none⟩ (.int .u32 ((sched m i).toNat : Int)) h = some (h.set wb (.cells (filU (sched m) 64 (i + 1)) 174 true 0)) := by
   rw [st1_of hb (by rw [filU_length (by omega)]; omega) rfl, filU_set (by omega)]
  refine Wp.bnd hst ?_
  rw [Gx.w1 (by omega)]
  exact sp_l0 K D j bot hwb hj d (i + 1) _ (by omega) (by omega) (kp.set hwb) (sset_get _ _ _)
theorem spread_spec {k0 : Nat} (hk : 100 ≤ k0) (D : CallF) {h : AHeap} {b : Slc} {blk : List UInt8} (R : Row encB h b blk) (hl : blk.length = 64) :
  Wp (sha_spread k0 D b h) fun r => r.1 = (List.range 64).map (fun i => encU (sched (wAt blk) i)) ∧ Keeps h r.2 := by
 simp only [sha_spread]
 let h1 := h.new (.cells (List.replicate 64 (.int .u32 0)) 174 true 0)
 have k1 : Keeps h h1 := Keeps.new h _
 have g1 : h1.get h.next = some (.cells (filU (sched (wAt blk)) 64 0) 174 true 0) := by rw [filU_zero]; simp [h1]
 refine Wp.jn fun j1 hj1 => ?_
 unfold sha_spread_l1
 obtain ⟨bot1, e1⟩ := iterK_of (fun _ _ _ _ => none) (sha_spread_l1b k0 D j1) (show 16 + 1 ≤ k0 by omega)
 rw [e1]
 refine sp_l1 k0 D j1 bot1 R hl (Nat.le_refl _) (f := sched (wAt blk)) (fun i hi => sched_lo hi) ?_ 16 0 h1 (by omega) k1 g1
 intro h2 k2 g2
 subst hj1
 refine Wp.jn fun j2 hj2 => ?_
 unfold sha_spread_l0
 obtain ⟨bot2, e2⟩ := iterK_of (fun _ _ _ => none) (sha_spread_l0b k0 D j2) (show 48 + 1 ≤ k0 by omega)
 rw [e2]
 refine sp_l0 k0 D j2 bot2 (Nat.le_refl _) ?_ 48 16 h2 (by omega) (by omega) k2 g2
 intro h3 k3 g3
 subst hj2
 rw [filU_all] at g3
 obtain ⟨L, hL⟩ : ∃ L, L = (List.range 64).map fun i => encU (sched (wAt blk) i) := ⟨_, rfl⟩
 rw [← hL] at g3 ⊢
 have hlen : L.length = 64 := by rw [hL]; simp
 have l3 := sldA_at (sp := none) g3 hlen
 have s3 := sstL_at (sp := none) g3 hlen hlen (by rw [hL]; exact allOne_U _ _) (by decide)
 have l4 := sldA_at (sp := none) (sset_get h3 h.next (.cells L 174 true 0)) hlen
 have hd : decA 64 (.agg ⟨L⟩) = some L := by
  show (bif Nat.beq L.length 64 then some L else none) = some L
  rw [hlen]; rfl
 exact Wp.bnd rfl (Wp.bnd l3 (Wp.bnd rfl (Wp.bnd s3 (Wp.bnd rfl (Wp.bnd l4 (Wp.bnd hd (Wp.of ⟨rfl, k3.set (Nat.le_refl _)⟩)))))))
end Ge.B
namespace Ge.B
open Go Gx Go.Proofs
structure HS (h : AHeap) (hb : Nat) (s : St) (r : Slc) (long : Int) : Prop where
 blk : h.get hb = some (.cells (hcells (wl s) r long) 150 true 0)
 lt : hb < h.next
theorem HS.chg {S : Nat → Prop} {h h' : AHeap} {hb : Nat} {s : St} {r : Slc} {long : Int} (H : HS h hb s r long) (c : Chg S h h') (hs : ¬ S hb) : HS h' hb s r long := ⟨(c.oth hb H.lt hs).trans H.blk, Nat.lt_of_lt_of_le H.lt c.nx⟩
theorem HS.keeps {h h' : AHeap} {hb : Nat} {s : St} {r : Slc} {long : Int} (H : HS h hb s r long) (c : Keeps h h') : HS h' hb s r long := H.chg c fun f => f
theorem tk_l1 (K : Nat) (D : CallF) (j) (bot) {Q : Unit × AHeap → Prop} {h0 : AHeap} (kg : KG 0 h0) {wb : Nat} {m : Nat → UInt32} (hw : h0.get wb = some (.cells ((List.range 64).map fun i => encU (m i)) 174 true 0)) (hv : Option Addr) (s : St)
  (hj : ∀ t : St, t = rounds kAt m 64 s → Wp (j hv (t.a.toNat : Int) (t.b.toNat : Int) (t.c.toNat : Int) (t.d.toNat : Int) (t.e.toNat : Int) (t.f.toNat : Int) (t.g.toNat : Int) (t.h.toNat : Int) h0) Q) :
  ∀ (d i : Nat) (t : St), i + d = 64 → t = rounds kAt m i s →
   Wp (iterK bot (d + 1) (sha_Hash_take_l1b K D j) hv (some ⟨wb, 0, none⟩) (t.a.toNat : Int) (t.b.toNat : Int) (t.c.toNat : Int) (t.d.toNat : Int) (t.e.toNat : Int) (t.f.toNat : Int) (t.g.toNat : Int) (t.h.toNat : Int) (i : Int) h0) Q
 | 0, i, t, hi, ht => by
  obtain rfl : i = 64 := by omega
  rw [iterK_s]; simp only [sha_Hash_take_l1b]
  exact Wp.ifn (by simp) (hj t ht)
 | d + 1, i, t, hi, ht => by
  rw [iterK_s]; simp only [sha_Hash_take_l1b]
  refine Wp.ifp (by simp; omega) ?_
  refine Wp.bnd (rot_spec K D _ h0 6 (by decide) (by decide)) (Wp.bnd (rot_spec K D _ h0 11 (by decide) (by decide)) (Wp.bnd (rot_spec K D _ h0 25 (by decide) (by decide)) ?_))
  have lw : ldI .u32 ⟨wb, i, none⟩ h0 = some ((m i).toNat : Int) := sldI_at hw (by rw [List.getElem?_map, List.getElem?_range (by omega)]; rfl)
  refine Wp.bnd (sidxA (by omega)) (Wp.bnd (kg.ld (by omega)) (Wp.bnd rfl (Wp.bnd (sidxA (by omega)) (Wp.bnd lw ?_))))
  refine Wp.bnd (rot_spec K D _ h0 2 (by decide) (by decide)) (Wp.bnd (rot_spec K D _ h0 13 (by decide) (by decide)) (Wp.bnd (rot_spec K D _ h0 22 (by decide) (by decide)) ?_))
  simp only [xorU, andU, notU, addU]
  rw [Gx.w1 (by omega)]
  exact tk_l1 K D j bot kg hw hv s hj d (i + 1) (rnd (kAt i) (m i) t) (by omega) (by rw [ht]; rfl)
theorem tk_l0 (K : Nat) (D : CallF) (bot) {h0 : AHeap} {hb : Nat} {s t : St} {r : Slc} {long : Int} (hlt : hb < h0.next) :
  ∀ (d i : Nat) (h : AHeap) (l : List UInt32), i + d = 8 → l.length = 8 → (∀ j x y, j < i → (wl s)[j]? = some x → (wl t)[j]? = some y → l[j]? = some (x + y)) → (∀ j, i ≤ j → l[j]? = (wl s)[j]?) → h.get hb = some (.cells (hcells l r long) 150 true 0) → Chg (fun x => x = hb) h0 h →
   Wp (iterK bot (d + 1) (sha_Hash_take_l0b K D) (some ⟨hb, 0, none⟩) ((t.a.toNat : Int), (t.b.toNat : Int), (t.c.toNat : Int), (t.d.toNat : Int), (t.e.toNat : Int), (t.f.toNat : Int), (t.g.toNat : Int), (t.h.toNat : Int)) (i : Int) h) fun q => HS q.2 hb (addSt s t) r long ∧ Chg (fun x => x = hb) h0 q.2
 | 0, i, h, l, hi, hl, l1, l2, hg, c => by
  obtain rfl : i = 8 := by omega
  rw [iterK_s]; simp only [sha_Hash_take_l0b]
  refine Wp.ifn (by simp) (Wp.of ⟨⟨?_, Nat.lt_of_lt_of_le hlt c.nx⟩, c⟩)
  have e : l = wl (addSt s t) := by
   apply List.ext_getElem?
   intro j
   by_cases hj : j < 8
   ·obtain ⟨x, hx⟩ := isome (l := wl s) (i := j) hj
    obtain ⟨y, hy⟩ := isome (l := wl t) (i := j) hj
    rw [l1 j x y hj hx hy]
    match j, hj with
    | 0, _ => cases hx; cases hy; rfl
    | 1, _ => cases hx; cases hy; rfl
    | 2, _ => cases hx; cases hy; rfl
    | 3, _ => cases hx; cases hy; rfl
    | 4, _ => cases hx; cases hy; rfl
    | 5, _ => cases hx; cases hy; rfl
    | 6, _ => cases hx; cases hy; rfl
    | 7, _ => cases hx; cases hy; rfl
    | n + 8, h => omega
   ·rw [List.getElem?_eq_none (by omega), List.getElem?_eq_none (by rw [wl_length]; omega)]
  rw [e] at hg
  exact hg
 | d + 1, i, h, l, hi, hl, l1, l2, hg, c => by
  rw [iterK_s]; simp only [sha_Hash_take_l0b]
  refine Wp.ifp (by simp; omega) ?_
  refine Wp.ifp (by omega) ?_
  obtain ⟨x, hx⟩ := isome (l := wl s) (i := i) (by rw [wl_length]; omega)
  obtain ⟨y, hy⟩ := isome (l := wl t) (i := i) (by rw [wl_length]; omega)
  have hly : ((wl t).map encU)[((i : Int)).toNat * 1]? = some (.int .u32 (y.toNat : Int)) := by
   rw [Int.toNat_natCast, Nat.mul_one, List.getElem?_map, hy]; rfl
  refine Wp.bnd hly (Wp.bnd rfl (Wp.bnd rfl ?_))
  have hlx : l[i]? = some x := by rw [l2 i (Nat.le_refl _), hx]
  refine Wp.bnd (sidxA (by omega)) (Wp.bnd (sldI_at hg (hcells_word hlx)) (Wp.bnd rfl (Wp.bnd (sidxA (by omega)) ?_)))
  rw [addU]
  have hst : st1 ⟨hb, i, none⟩ (.int .u32 ((x + y).toNat : Int)) h = some (h.set hb (.cells (hcells (l.set i (x + y)) r long) 150 true 0)) := by
   rw [st1_of hg (by rw [hcells_length hl]; omega) rfl, hcells_set _ (by omega)]
  refine Wp.bnd hst ?_
  rw [Gx.w1 (by omega)]
  refine tk_l0 K D bot hlt d (i + 1) _ (l.set i (x + y)) (by omega) (by simpa using hl) (fun j x' y' hj hx' hy' => ?_) (fun j hj => ?_) (sset_get _ _ _) (c.trans (Chg.set (.inr rfl)))
  ·by_cases e : j = i
   ·subst e
    rw [hx] at hx'; rw [hy] at hy'
    cases hx'; cases hy'
    rw [List.getElem?_set_self (by omega)]
   ·rw [List.getElem?_set_ne (fun q => e q.symm)]
    exact l1 j x' y' (by omega) hx' hy'
  ·rw [List.getElem?_set_ne (by omega)]
   exact l2 j (by omega)
theorem take_spec {k0 : Nat} (hk : 100 ≤ k0) (D : CallF) {h : AHeap} {hb : Nat} {s : St} {r : Slc} {long : Int} (H : HS h hb s r long) (kg : KG 0 h) {b : Slc} {blk : List UInt8} (R : Row encB h b blk) (hl : blk.length = 64) :
  Wp (sha_Hash_take k0 D (some ⟨hb, 0, none⟩) b h) fun q => HS q.2 hb (comp s blk) r long ∧ Chg (fun x => x = hb) h q.2 := by
 simp only [sha_Hash_take]
 refine Wp.call (spread_spec hk D R hl) fun a ⟨ha, ka⟩ => ?_
 obtain ⟨L, h1⟩ := a
 simp only at ha ka ⊢
 subst ha
 let h2 := h1.new (.cells (List.replicate 64 (.int .u32 0)) 174 true 0)
 have g2 : h2.get h1.next = some (.cells (List.replicate 64 (.int .u32 0)) 174 true 0) := by simp [h2]
 have s3 := sstL_at (sp := none) g2 (by simp) (show ((List.range 64).map fun i => encU (sched (wAt blk) i)).length = 64 by simp) (allOne_U _ _) (by decide)
 refine Wp.bnd s3 ?_
 obtain ⟨h3, e3⟩ : ∃ h3, h3 = h2.set h1.next (.cells ((List.range 64).map fun i => encU (sched (wAt blk) i)) 174 true 0) := ⟨_, rfl⟩
 rw [← e3]
 have k3 : Keeps h h3 := by
  rw [e3]
  exact Keeps.set (ka.trans (Keeps.new h1 _)) ka.nx
 have g3 : h3.get h1.next = some (.cells ((List.range 64).map fun i => encU (sched (wAt blk) i)) 174 true 0) := by rw [e3]; exact sset_get _ _ _
 have H3 := H.keeps k3
 have ld : ∀ {i : Nat} {x : UInt32}, (wl s)[i]? = some x → ldI .u32 ⟨hb, i, none⟩ h3 = some (x.toNat : Int) := fun hx => sldI_at H3.blk (hcells_word hx)
 refine Wp.bnd rfl (Wp.bnd (ld (i := 0) rfl) (Wp.bnd rfl (Wp.bnd (ld (i := 1) rfl) (Wp.bnd rfl (Wp.bnd (ld (i := 2) rfl) (Wp.bnd rfl (Wp.bnd (ld (i := 3) rfl) (Wp.bnd rfl (Wp.bnd (ld (i := 4) rfl) (Wp.bnd rfl (Wp.bnd (ld (i := 5) rfl) (Wp.bnd rfl (Wp.bnd (ld (i := 6) rfl) (Wp.bnd rfl (Wp.bnd (ld (i := 7) rfl) ?_)))))))))))))))
 refine Wp.jn fun j1 hj1 => ?_
 unfold sha_Hash_take_l1
 obtain ⟨bot1, e1⟩ := iterK_of (fun _ _ _ _ _ _ _ _ _ _ _ _ => none) (sha_Hash_take_l1b k0 D j1) (show 64 + 1 ≤ k0 by omega)
 rw [e1]
 refine tk_l1 k0 D j1 bot1 (kg.chg k3 fun f => f) g3 (some ⟨hb, 0, none⟩) s ?_ 64 0 s (by omega) rfl
 intro t ht
 subst hj1
 dsimp only
 unfold sha_Hash_take_l0
 obtain ⟨bot2, e2⟩ := iterK_of (fun _ _ _ _ => none) (sha_Hash_take_l0b k0 D) (show 8 + 1 ≤ k0 by omega)
 rw [e2]
 refine (tk_l0 k0 D bot2 (h0 := h3) (s := s) (t := t) (r := r) (long := long) H3.lt 8 0 h3 (wl s) (by omega) rfl (fun j x y hj => by omega) (fun j _ => rfl) H3.blk (Chg.refl _ _)).mono ?_
 rintro q ⟨q1, q2⟩
 refine ⟨?_, (k3.keeps).trans q2⟩
 unfold comp
 rw [← ht]; exact q1
end Ge.B
namespace Ge.B
open Go Gx Go.Proofs
structure Hash (n0 : Nat) (h : AHeap) (hb : Nat) (s : St) (rest : List UInt8) (long : Nat) : Prop where
 ok : ∃ r, HS h hb s r (long : Int) ∧ Acc encB 5 n0 h r rest ∧ ∀ a, r.a = some a → a.block ≠ hb
 le : n0 ≤ hb
theorem Hash.keeps {n0 : Nat} {h h' : AHeap} {hb : Nat} {s : St} {rest : List UInt8} {long : Nat} (H : Hash n0 h hb s rest long) (c : Keeps h h') : Hash n0 h' hb s rest long := by
 obtain ⟨r, h1, h2, h3⟩ := H.ok
 exact ⟨⟨r, h1.keeps c, h2.keeps c, h3⟩, H.le⟩
theorem Hash.lt {n0 : Nat} {h : AHeap} {hb : Nat} {s : St} {rest : List UInt8} {long : Nat} (H : Hash n0 h hb s rest long) : hb < h.next := by
 obtain ⟨r, h1, _⟩ := H.ok
 exact h1.lt
theorem hcells_rest {l : List UInt32} {r : Slc} {long : Int} (h : l.length = 8) : (hcells l r long)[8]? = some (.slice r.a r.len r.cap) := by
 unfold hcells
 rw [List.getElem?_append_right (by simp [h]), List.length_map, h]; rfl
theorem hcells_long {l : List UInt32} {r : Slc} {long : Int} (h : l.length = 8) : (hcells l r long)[9]? = some (.int .i64 long) := by
 unfold hcells
 rw [List.getElem?_append_right (by simp [h]), List.length_map, h]; rfl
theorem hcells_setR {l : List UInt32} {r r' : Slc} {long : Int} (h : l.length = 8) : (hcells l r long).set 8 (.slice r'.a r'.len r'.cap) = hcells l r' long := by
 unfold hcells
 rw [List.set_append_right _ _ (by simp [h]), List.length_map, h]; rfl
theorem hcells_setL {l : List UInt32} {r : Slc} {long long' : Int} (h : l.length = 8) : (hcells l r long).set 9 (.int .i64 long') = hcells l r long' := by
 unfold hcells
 rw [List.set_append_right _ _ (by simp [h]), List.length_map, h]; rfl
theorem HS.setR {h : AHeap} {hb : Nat} {s : St} {r : Slc} {long : Int} (H : HS h hb s r long) (r' : Slc) : st1 ⟨hb, 8, none⟩ (.slice r'.a r'.len r'.cap) h = some (h.set hb (.cells (hcells (wl s) r' long) 150 true 0)) ∧ HS (h.set hb (.cells (hcells (wl s) r' long) 150 true 0)) hb s r' long := by
 refine ⟨?_, sset_get _ _ _, by simpa using H.lt⟩
 rw [st1_of H.blk (by rw [hcells_length (wl_length s)]; decide) rfl, hcells_setR (wl_length s)]
theorem HS.setL {h : AHeap} {hb : Nat} {s : St} {r : Slc} {long : Int} (H : HS h hb s r long) (long' : Int) : st1 ⟨hb, 9, none⟩ (.int .i64 long') h = some (h.set hb (.cells (hcells (wl s) r long') 150 true 0)) ∧ HS (h.set hb (.cells (hcells (wl s) r long') 150 true 0)) hb s r long' := by
 refine ⟨?_, sset_get _ _ _, by simpa using H.lt⟩
 rw [st1_of H.blk (by rw [hcells_length (wl_length s)]; decide) rfl, hcells_setL (wl_length s)]
theorem acc_sub {n0 : Nat} {h : AHeap} {r : Slc} {l : List UInt8} (A : Acc encB 5 n0 h r l) {i j : Nat} (hij : i ≤ j) (hj : j ≤ l.length) (hi : Option Int) (hhi : hi = some (j : Int) ∨ (hi = none ∧ j = l.length)) :
  ∃ t, Gx.subL 1 r (some (i : Int)) hi none = some t ∧ Row encB h t ((l.take j).drop i) ∧ t.len = j - i := by
 have hlen := A.row.1
 rcases A.st with ⟨rfl, rfl⟩ | ⟨b, g⟩
 ·simp at hj
  subst hj
  obtain rfl : i = 0 := by omega
  refine ⟨⟨none, 0, 0⟩, ?_, Row.nil _ _ _ _, rfl⟩
  rcases hhi with rfl | ⟨rfl, _⟩ <;> rfl
 ·have hg := g.s
  subst hg
  have hb := A.lt ⟨b, 0, some 2⟩ rfl
  have hhv : hi.getD ((l.length : Nat) : Int) = (j : Int) := by
   rcases hhi with rfl | ⟨rfl, e⟩
   ·rfl
   ·rw [e]; rfl
  refine ⟨⟨some ⟨b, if (l.length : Int) = (i : Int) then 0 else i, some 2⟩, j - i, l.length - i⟩, ?_, ⟨?_, fun k x hx => ?_⟩, rfl⟩
  ·simp only [Gx.subL, Option.getD_none, Option.getD_some, hhv]
   rw [if_pos (by omega), if_pos (by rfl)]
   rw [show ((j : Int) - (i : Int)).toNat = j - i by omega, show ((l.length : Int) - (i : Int)).toNat = l.length - i by omega]
   simp
  ·rw [List.length_drop, List.length_take]; show j - i = min j l.length - i; omega
  ·rw [List.getElem?_drop, List.getElem?_take] at hx
   split at hx
   ·have hlt := (List.getElem?_eq_some_iff.1 hx).1
    refine ⟨_, _, _, _, _, rfl, hb.1, g.blk, ?_⟩
    simp only
    rw [if_neg (by omega), List.getElem?_map, hx]; rfl
   ·cases hx
theorem wr_l0 {k0 : Nat} (hk : 100 ≤ k0) (D : CallF) (j) (bot) {Q : Unit × AHeap → Prop} {n0 hb : Nat} (hn : 0 < n0) (hle : n0 ≤ hb) {long : Int} {r : Slc} {l : List UInt8} (hl : l.length ≤ 140737488355328) (hr : ∀ a, r.a = some a → a.block ≠ hb) {s0 : St}
  {h0 : AHeap} (hj : ∀ h i, Chg (fun x => n0 ≤ x) h0 h → KG 0 h → HS h hb (absorb s0 l) r long → Acc encB 5 n0 h r l → i = 64 * (l.length / 64) → Wp (j (some ⟨hb, 0, none⟩) (i : Int) h) Q) :
  ∀ (d : Nat) (i : Nat) (s : St) (h : AHeap), l.length - i < 64 * (d + 1) → i ≤ l.length → i % 64 = 0 → absorb s (l.drop i) = absorb s0 l → Chg (fun x => n0 ≤ x) h0 h → KG 0 h → HS h hb s r long → Acc encB 5 n0 h r l →
   Wp (iterK bot (d + 1) (sha_Hash_Write_l0b k0 D j) (some ⟨hb, 0, none⟩) (i : Int) h) Q
 | d, i, s, h, hd, hi, h6, ha, c, kg, H, A => by
  rw [iterK_s]; simp only [sha_Hash_Write_l0b]
  refine Wp.bnd rfl (Wp.bnd (sldL_at H.blk (hcells_rest (wl_length s))) ?_)
  have hlen : r.len = l.length := A.row.1
  simp only
  rw [hlen, w64 _ (by omega)]
  by_cases c1 : 64 ≤ l.length - i
  ·refine Wp.ifp (by simp; omega) ?_
   obtain ⟨d', rfl⟩ : ∃ d', d = d' + 1 := ⟨d - 1, by omega⟩
   refine Wp.bnd rfl (Wp.bnd (sldL_at H.blk (hcells_rest (wl_length s))) ?_)
   have e64 : IntKind.wrap .i64 ((i : Int) + 64) = ((i + 64 : Nat) : Int) := sw64 (by omega) (by omega)
   rw [e64]
   obtain ⟨t, e1, R, tl⟩ := acc_sub A (i := i) (j := i + 64) (by omega) (by omega) (some ((i + 64 : Nat) : Int)) (.inl rfl)
   have e1' : Gx.subL 1 ⟨r.a, l.length, r.cap⟩ (some (i : Int)) (some ((i + 64 : Nat) : Int)) none = some t := by
    rw [← hlen]; exact e1
   refine Wp.bnd e1' ?_
   have hblk : ((l.take (i + 64)).drop i).length = 64 := by rw [List.length_drop, List.length_take]; omega
   refine Wp.call (take_spec hk D H kg R hblk) fun q ⟨q1, q2⟩ => ?_
   have q2' : Chg (fun x => n0 ≤ x) h q.2 := q2.wk fun x _ e => by have e : x = hb := e; show n0 ≤ x; omega
   refine wr_l0 hk D j bot hn hle hl hr hj d' (i + 64) _ q.2 (by omega) (by omega) (by omega) ?_ (c.trans q2') (kg.chg q2 (by omega)) q1 (A.chg q2 fun a ha e => hr a ha e)
   rw [← ha, absorb_ge (l := l.drop i) (by rw [List.length_drop]; exact c1), List.drop_drop]
   congr 2
   rw [List.drop_take, show i + 64 - i = 64 by omega]
  ·refine Wp.ifn (by simp; omega) ?_
   have hd2 : absorb s (l.drop i) = s := absorb_lt (by rw [List.length_drop]; omega)
   rw [hd2] at ha
   subst ha
   exact hj h i c kg H A (by omega)
theorem write_spec {k0 : Nat} (hk : 100 ≤ k0) (D : CallF) {n0 : Nat} {h : AHeap} {hb : Nat} {s : St} {rest : List UInt8} {long : Nat} (H : Hash n0 h hb s rest long) (kg : KG 0 h) (hn : 0 < n0) (t : ByteArray) (hlong : long + t.size ≤ 140737488351500) (hrest : rest.length ≤ 3800) (hkt : rest.length + t.size < 64 * k0) :
  Wp (sha_Hash_Write k0 D (some ⟨hb, 0, none⟩) t h) fun q => Hash n0 q.2 hb (absorb s (rest ++ bl t)) (restOf (rest ++ bl t)) (long + t.size) ∧ Chg (fun x => n0 ≤ x) h q.2 := by
 obtain ⟨⟨r, HS0, A0, hr⟩, hle⟩ := H
 simp only [sha_Hash_Write]
 have e1 : IntKind.wrap .i64 ((long : Int) + (t.size : Int)) = ((long + t.size : Nat) : Int) := sw64 (by omega) (by omega)
 obtain ⟨s1, H1⟩ := HS0.setL ((long + t.size : Nat) : Int)
 refine Wp.bnd rfl (Wp.bnd (sldI_at HS0.blk (hcells_long (wl_length s))) (Wp.bnd rfl (Wp.bnd (by rw [e1]; exact s1) ?_)))
 obtain ⟨h1, eh1⟩ : ∃ h1, h1 = h.set hb (.cells (hcells (wl s) r ((long + t.size : Nat) : Int)) 150 true 0) := ⟨_, rfl⟩
 rw [← eh1] at H1 ⊢
 have c1 : Chg (fun x => x = hb) h h1 := by rw [eh1]; exact Chg.set (.inr rfl)
 have A1 := A0.chg c1 fun a ha e => hr a ha e
 have n1 : n0 ≤ h1.next := Nat.le_trans hle (Nat.le_of_lt H1.lt)
 obtain ⟨r2, h2, e2, A2, c2, f2⟩ := A1.app (bytes := 1) (fun _ => rfl) (bl t) (by rw [bl_length]; omega) (by omega) n1
 rw [bl_length] at e2
 refine Wp.bnd rfl (Wp.bnd (sldL_at H1.blk (hcells_rest (wl_length s))) ?_)
 rw [bytesL_bl]
 refine Wp.bnd e2 ?_
 have H2 : HS h2 hb s r ((long + t.size : Nat) : Int) := H1.chg c2 fun ⟨a, ha, e⟩ => hr a ha e.symm
 have hr2 : ∀ a, r2.a = some a → a.block ≠ hb := fun a ha e => by
  rcases f2 a ha with f | f
  ·have := H1.lt; omega
  ·exact hr a f e
 obtain ⟨s3, H3⟩ := H2.setR r2
 refine Wp.bnd rfl (Wp.bnd s3 ?_)
 obtain ⟨h3, eh3⟩ : ∃ h3, h3 = h2.set hb (.cells (hcells (wl s) r2 ((long + t.size : Nat) : Int)) 150 true 0) := ⟨_, rfl⟩
 rw [← eh3] at H3 ⊢
 have c3 : Chg (fun x => x = hb) h2 h3 := by rw [eh3]; exact Chg.set (.inr rfl)
 have A3 := A2.chg c3 fun a ha e => hr2 a ha e
 have w1' : Chg (fun x => n0 ≤ x) h h1 := c1.wk fun x _ e => by have e : x = hb := e; show n0 ≤ x; omega
 have w2 : Chg (fun x => n0 ≤ x) h1 h2 := c2.wk fun x _ ⟨a, ha, e⟩ => by have := (A1.lt a ha).2; show n0 ≤ x; omega
 have w3 : Chg (fun x => n0 ≤ x) h2 h3 := c3.wk fun x _ e => by have e : x = hb := e; show n0 ≤ x; omega
 have W3 := w1'.trans (w2.trans w3)
 refine Wp.jn fun j1 hj1 => ?_
 unfold sha_Hash_Write_l0
 obtain ⟨d, hd⟩ : ∃ d, d = (rest ++ bl t).length / 64 := ⟨_, rfl⟩
 have hll : (rest ++ bl t).length = rest.length + t.size := by rw [List.length_append, bl_length]
 obtain ⟨bot1, eb⟩ := iterK_of (fun _ _ _ => none) (sha_Hash_Write_l0b k0 D j1) (show d + 1 ≤ k0 by omega)
 rw [eb]
 refine wr_l0 hk D j1 bot1 hn hle (s0 := s) (h0 := h3) (l := rest ++ bl t) (by omega) hr2 ?_ d 0 s h3 (by omega) (by omega) rfl rfl (Chg.refl _ _) (kg.chg W3 (by omega)) H3 A3
 intro h4 i c4 kg4 H4 A4 hi
 subst hj1
 obtain ⟨u, u1, u2, u3⟩ := acc_sub A4 (i := i) (j := (rest ++ bl t).length) (by omega) (Nat.le_refl _) none (.inr ⟨rfl, rfl⟩)
 have hlen : r2.len = (rest ++ bl t).length := A4.row.1
 refine Wp.bnd rfl (Wp.bnd (sldL_at H4.blk (hcells_rest (wl_length _))) (Wp.bnd u1 (Wp.bnd u2.rdS ?_)))
 have n4 : n0 ≤ h4.next := Nat.le_trans hle (Nat.le_of_lt H4.lt)
 have er : ((rest ++ bl t).take (rest ++ bl t).length).drop i = restOf (rest ++ bl t) := by rw [List.take_length, hi]; rfl
 rw [er]
 obtain ⟨r5, h5, e5, A5, c5, f5⟩ := (Acc.nil encB 5 n0 h4).app (bytes := 1) (fun _ => rfl) (restOf (rest ++ bl t)) (by rw [restOf_length]; simp; omega) (by omega) n4
 have ul : u.len = (restOf (rest ++ bl t)).length := by rw [u3, ← er, List.length_drop, List.take_length]
 rw [← ul] at e5
 refine Wp.bnd e5 ?_
 have k5 : Keeps h4 h5 := c5.wk fun x _ ⟨a, ha, _⟩ => by cases ha
 have H5 := H4.keeps k5
 obtain ⟨s6, H6⟩ := H5.setR r5
 have hr5 : ∀ a, r5.a = some a → a.block ≠ hb := fun a ha e => by
  rcases f5 a ha with f | f
  ·have := H4.lt; omega
  ·cases f
 refine Wp.bnd rfl (Wp.bnd s6 (Wp.of ⟨⟨⟨r5, H6, ?_, hr5⟩, hle⟩, ?_⟩))
 ·exact (A5.chg (Chg.set (S := fun x => x = hb) (.inr rfl)) fun a ha e => hr5 a ha e)
 ·refine W3.trans (c4.trans ((k5.keeps).trans (Chg.set (.inr hle))))
end Ge.B
namespace Ge.B
open Go Gx Go.Proofs
theorem hnew_spec (k0 : Nat) (D : CallF) (h : AHeap) : ∃ h' hb, sha_New k0 D h = some (some ⟨hb, 0, none⟩, h') ∧ Keeps h h' ∧ h.next ≤ hb ∧ Hash h.next h' hb st0 [] 0 := by
 have first : sha_first k0 D h = some (((st0.a.toNat : Int), (st0.b.toNat : Int), (st0.c.toNat : Int), (st0.d.toNat : Int), (st0.e.toNat : Int), (st0.f.toNat : Int), (st0.g.toNat : Int), (st0.h.toNat : Int)), (h.new (.cells [.int .u32 0, .int .u32 0, .int .u32 0, .int .u32 0, .int .u32 0, .int .u32 0, .int .u32 0, .int .u32 0] 147 true 0)).set h.next (.cells ((wl st0).map encU) 147 true 0)) := by
  simp only [sha_first]
  have g1 : (h.new (.cells [.int .u32 0, .int .u32 0, .int .u32 0, .int .u32 0, .int .u32 0, .int .u32 0, .int .u32 0, .int .u32 0] 147 true 0)).get h.next = some (.cells [.int .u32 0, .int .u32 0, .int .u32 0, .int .u32 0, .int .u32 0, .int .u32 0, .int .u32 0, .int .u32 0] 147 true 0) := by simp
  have s1 := sstL_at (sp := none) g1 rfl (show ((wl st0).map encU).length = 8 from rfl) rfl (by decide)
  refine bnd s1 (bnd (sldA_at (sset_get _ _ _) rfl) (bnd rfl rfl))
 simp only [sha_New]
 let h1 := (h.new (.cells [.int .u32 0, .int .u32 0, .int .u32 0, .int .u32 0, .int .u32 0, .int .u32 0, .int .u32 0, .int .u32 0] 147 true 0)).set h.next (.cells ((wl st0).map encU) 147 true 0)
 have k1 : Keeps h h1 := Keeps.set (Keeps.new h _) (Nat.le_refl _)
 have n1 : h1.next = h.next + 1 := by simp [h1]
 refine ⟨h1.new (.cells (hcells (wl st0) ⟨none, 0, 0⟩ 0) 150 true 0), h1.next, bnd first rfl, k1.trans (Keeps.new _ _), by omega, ⟨⟨⟨none, 0, 0⟩, ⟨by simp, by simp⟩, Acc.nil _ _ _ _, fun a ha => by cases ha⟩, by omega⟩⟩
theorem fork_spec (k0 : Nat) (D : CallF) {n0 : Nat} {h : AHeap} {hb : Nat} {s : St} {rest : List UInt8} {long : Nat} (H : Hash n0 h hb s rest long) (hr : rest.length ≤ 140737488355000) :
  ∃ h' eb, sha_Hash_Fork k0 D (some ⟨hb, 0, none⟩) h = some (some ⟨eb, 0, none⟩, h') ∧ Keeps h h' ∧ Hash h.next h' eb s rest long ∧ Hash n0 h' hb s rest long := by
 have H0 := H
 obtain ⟨⟨r, HS0, A0, hne⟩, hle⟩ := H
 simp only [sha_Hash_Fork]
 obtain ⟨r3, h3, e3, A3, c3, f3⟩ := (Acc.nil encB 5 h.next h).app (bytes := 1) (fun _ => rfl) rest (by simp; omega) (by omega) (Nat.le_refl _)
 have hlen : r.len = rest.length := A0.row.1
 rw [← hlen] at e3
 have k3 : Keeps h h3 := c3.wk fun x _ ⟨a, ha, _⟩ => by cases ha
 have H3 := HS0.keeps k3
 have tk : (hcells (wl s) r (long : Int)).take 8 = (wl s).map encU := rfl
 have ldw : ∀ {g : AHeap}, HS g hb s r (long : Int) → ldA 8 ⟨hb, 0, none⟩ g = some ((wl s).map encU) := fun {g} Hg => by
  have := sldA_take (sp := none) Hg.blk (show 0 < 8 by decide) (by rw [hcells_length (wl_length s)]; decide)
  rw [tk] at this; exact this
 have ldl : ∀ {g : AHeap}, HS g hb s r (long : Int) → ldI .i64 ⟨hb, 9, none⟩ g = some (long : Int) := fun {g} Hg => sldI_at Hg.blk (hcells_long (wl_length s))
 refine ⟨h3.new (.cells (hcells (wl s) r3 (long : Int)) 150 true 0), h3.next, ?_, k3.trans (Keeps.new _ _), ⟨⟨r3, ⟨by simp, by simp⟩, A3.keeps (Keeps.new _ _), fun a ha => ?_⟩, k3.nx⟩, H0.keeps (k3.trans (Keeps.new _ _))⟩
 ·refine bnd rfl (bnd (sldL_at HS0.blk (hcells_rest (wl_length s))) (bnd A0.row.rdS (bnd e3 (bnd rfl (bnd (ldw H3) ?_)))))
  refine gp (ssw1 ?_) (bnd rfl (bnd rfl (bnd (ldl H3) (gp (ssw1 ?_) rfl))))
  ·show (ldA 8 ⟨hb, 0, none⟩ h).bind _ = _
   rw [ldw HS0]; rfl
  ·show (ldI .i64 ⟨hb, 9, none⟩ h).bind _ = _
   rw [ldl HS0]; rfl
 ·have := (A3.lt a ha).1
  omega
theorem sm_l2 {k0 : Nat} (D : CallF) (j) (bot) {Q : ByteArray × AHeap → Prop} {n0 eb hb : Nat} {s : St} {rest : List UInt8} {long : Nat} (hrl : rest.length < 64) {h0 : AHeap}
  (hj : ∀ h t, Keeps h0 h → Lst encB 5 h0.next h t (128 :: List.replicate (zeroN rest.length) 0) → Wp (j (some ⟨hb, 0, none⟩) (some ⟨eb, 0, none⟩) t h) Q) (H : Hash n0 h0 eb s rest long) :
  ∀ (d i : Nat) (t : Slc) (h : AHeap), i + d = zeroN rest.length → Keeps h0 h → Lst encB 5 h0.next h t (128 :: List.replicate i 0) →
   Wp (iterK bot (d + 1) (sha_Hash_Sum_l2b k0 D j) (some ⟨hb, 0, none⟩) (some ⟨eb, 0, none⟩) t h) Q := fun d => by
 induction d with
 | zero =>
  intro i t h hi kp L
  rw [iterK_s]; simp only [sha_Hash_Sum_l2b]
  obtain ⟨r, H1, A1, _⟩ := (H.keeps kp).ok
  refine Wp.bnd rfl (Wp.bnd (sldL_at H1.blk (hcells_rest (wl_length s))) ?_)
  have hl : r.len = rest.length := A1.row.1
  have tl := L.len
  rw [List.length_cons, List.length_replicate] at tl
  have e : Int.tmod (IntKind.wrap .i64 ((r.len : Int) + (t.len : Int))) 64 = 56 := by
   rw [hl, tl, w64 _ (by unfold zeroN at hi; omega), Int.tmod_eq_emod_of_nonneg (by omega)]
   unfold zeroN at hi; omega
  rw [e]
  refine Wp.ifn (by simp) ?_
  have : i = zeroN rest.length := by omega
  subst this
  exact hj h t kp L
 | succ d ih =>
  intro i t h hi kp L
  rw [iterK_s]; simp only [sha_Hash_Sum_l2b]
  obtain ⟨r, H1, A1, _⟩ := (H.keeps kp).ok
  refine Wp.bnd rfl (Wp.bnd (sldL_at H1.blk (hcells_rest (wl_length s))) ?_)
  have hl : r.len = rest.length := A1.row.1
  have tl := L.len
  rw [List.length_cons, List.length_replicate] at tl
  have e : Int.tmod (IntKind.wrap .i64 ((r.len : Int) + (t.len : Int))) 64 ≠ 56 := by
   rw [hl, tl, w64 _ (by unfold zeroN at hi; omega), Int.tmod_eq_emod_of_nonneg (by omega)]
   unfold zeroN at hi; omega
  refine Wp.ifp (by simpa using e) ?_
  refine Wp.bnd rdS_one ?_
  have k1 : Keeps h (h.new (.cells [.int .u8 0] 5 true 0)) := Keeps.new h _
  obtain ⟨t', h', e1, L', c1⟩ := (L.chg k1 fun _ _ f => f).app (bytes := 1) (fun _ => rfl) [0] (by simp) (by simp; unfold zeroN at hi; omega) (by omega) (Nat.le_trans kp.nx k1.nx)
  refine Wp.bnd e1 ?_
  refine ih (i + 1) t' h' (by omega) ?_ ?_
  ·exact Chg.beh (kp.trans k1) c1 fun x hx e => by have e : h0.next ≤ x := e; omega
  ·rw [List.replicate_succ']; simpa using L'
theorem be64_length (n : Nat) : (be64 n).length = 8 := rfl
theorem be64_get (n : Nat) : ∀ j, j < 8 → (be64 n)[j]? = some (b8 (n / 2 ^ (56 - 8 * j)))
 | 0, _ => rfl
 | 1, _ => rfl
 | 2, _ => rfl
 | 3, _ => rfl
 | 4, _ => rfl
 | 5, _ => rfl
 | 6, _ => rfl
 | 7, _ => by show some (b8 n) = some (b8 (n / 2 ^ 0)); rw [Nat.pow_zero, Nat.div_one]
 | n + 8, h => by omega
theorem b8_int (n : Nat) : IntKind.wrap .u8 (n : Int) = ((b8 n).toNat : Int) := by
 rw [Go.IntKind.wrap_u8]
 unfold b8
 rw [UInt8.toNat_ofNat']
 omega
theorem sm_l1 {k0 : Nat} (D : CallF) (j) (bot) {Q : ByteArray × AHeap → Prop} {e : Option Addr} {base : List UInt8} (hbl : base.length ≤ 1000) (c : Nat) {h0 : AHeap}
  (hj : ∀ h t, Keeps h0 h → Lst encB 5 h0.next h t (base ++ be64 c) → Wp (j e t h) Q) :
  ∀ (d i : Nat) (t : Slc) (h : AHeap), i + d = 8 → Keeps h0 h → Lst encB 5 h0.next h t (base ++ (be64 c).take i) →
   Wp (iterK bot (d + 1) (sha_Hash_Sum_l1b k0 D j) e t (c : Int) (56 - 8 * (i : Int)) h) Q := fun d => by
 induction d with
 | zero =>
  intro i t h hi kp L
  rw [iterK_s]; simp only [sha_Hash_Sum_l1b]
  obtain rfl : i = 8 := by omega
  have e8 : (be64 c).take 8 = be64 c := rfl
  rw [e8] at L
  exact Wp.ifn (by simp) (hj h t kp L)
 | succ d ih =>
  intro i t h hi kp L
  rw [iterK_s]; simp only [sha_Hash_Sum_l1b]
  refine Wp.ifp (by simp; omega) ?_
  refine Wp.ifp (by omega) ?_
  have es : (56 - 8 * (i : Int)).toNat = 56 - 8 * i := by omega
  have em : min (56 - 8 * i) (IntKind.bits .u64) = 56 - 8 * i := Nat.min_eq_left (by show 56 - 8 * i ≤ 64; omega)
  have ep : (2 : Int) ^ (56 - 8 * i) = ((2 ^ (56 - 8 * i) : Nat) : Int) := by simp
  have ef : Int.fdiv (c : Int) ((2 ^ (56 - 8 * i) : Nat) : Int) = ((c / 2 ^ (56 - 8 * i) : Nat) : Int) := by
   rw [Int.fdiv_eq_ediv_of_nonneg _ (Int.natCast_nonneg _)]; simp
  rw [es, em, ep, ef, b8_int]
  refine Wp.bnd rdS_one ?_
  have k1 : Keeps h (h.new (.cells [.int .u8 ((b8 (c / 2 ^ (56 - 8 * i))).toNat : Int)] 5 true 0)) := Keeps.new h _
  obtain ⟨t', h', e1, L', c1⟩ := (L.chg k1 fun _ _ f => f).app (bytes := 1) (fun _ => rfl) [b8 (c / 2 ^ (56 - 8 * i))] (by simp) (by rw [List.length_append, List.length_take, be64_length]; simp; omega) (by omega) (Nat.le_trans kp.nx k1.nx)
  refine Wp.bnd e1 ?_
  have ew : IntKind.wrap .i64 (56 - 8 * (i : Int) - 8) = 56 - 8 * ((i + 1 : Nat) : Int) := by rw [w64 _ (by omega)]; omega
  rw [ew]
  refine ih (i + 1) t' h' (by omega) ?_ ?_
  ·exact Chg.beh (kp.trans k1) c1 fun x hx e => by have e : h0.next ≤ x := e; omega
  ·rw [List.take_add_one, be64_get c i (by omega)]
   simpa using L'
theorem out_bytes (x : UInt32) : [Value.int .u8 (IntKind.wrap .u8 (Int.fdiv (x.toNat : Int) 16777216)), .int .u8 (IntKind.wrap .u8 (Int.fdiv (x.toNat : Int) 65536)), .int .u8 (IntKind.wrap .u8 (Int.fdiv (x.toNat : Int) 256)), .int .u8 (IntKind.wrap .u8 (x.toNat : Int))] = (out32 x).map encB := by
 have e1 : Int.fdiv (x.toNat : Int) 16777216 = ((x.toNat / 16777216 : Nat) : Int) := by rw [Int.fdiv_eq_ediv_of_nonneg _ (by omega)]; simp
 have e2 : Int.fdiv (x.toNat : Int) 65536 = ((x.toNat / 65536 : Nat) : Int) := by rw [Int.fdiv_eq_ediv_of_nonneg _ (by omega)]; simp
 have e3 : Int.fdiv (x.toNat : Int) 256 = ((x.toNat / 256 : Nat) : Int) := by rw [Int.fdiv_eq_ediv_of_nonneg _ (by omega)]; simp
 rw [e1, e2, e3, b8_int, b8_int, b8_int, b8_int]; rfl
theorem out_flat (s : St) : outSt s = ((wl s).map out32).flatten := by simp [outSt, wl]
theorem sm_l0 {k0 : Nat} (D : CallF) (j) (bot) {Q : ByteArray × AHeap → Prop} (s : St) {h0 : AHeap}
  (hj : ∀ h t, Keeps h0 h → Acc encB 5 h0.next h t (outSt s) → Wp (j t h) Q) :
  ∀ (d i : Nat) (t : Slc) (h : AHeap), i + d = 8 → Keeps h0 h → Acc encB 5 h0.next h t (((wl s).take i).map out32).flatten →
   Wp (iterK bot (d + 1) (sha_Hash_Sum_l0b k0 D j) t ((s.a.toNat : Int), (s.b.toNat : Int), (s.c.toNat : Int), (s.d.toNat : Int), (s.e.toNat : Int), (s.f.toNat : Int), (s.g.toNat : Int), (s.h.toNat : Int)) (i : Int) h) Q := fun d => by
 induction d with
 | zero =>
  intro i t h hi kp A
  rw [iterK_s]; simp only [sha_Hash_Sum_l0b]
  obtain rfl : i = 8 := by omega
  refine Wp.ifn (by simp) (hj h t kp ?_)
  rw [out_flat]; exact A
 | succ d ih =>
  intro i t h hi kp A
  rw [iterK_s]; simp only [sha_Hash_Sum_l0b]
  refine Wp.ifp (by simp; omega) ?_
  refine Wp.ifp (by omega) ?_
  obtain ⟨x, hx⟩ := isome (l := wl s) (i := i) (by rw [wl_length]; omega)
  have hlx : ((wl s).map encU)[((i : Int)).toNat * 1]? = some (.int .u32 (x.toNat : Int)) := by
   rw [Int.toNat_natCast, Nat.mul_one, List.getElem?_map, hx]; rfl
  refine Wp.bnd hlx (Wp.bnd rfl ?_)
  rw [out_bytes]
  have k1 : Keeps h (h.new (.cells ((out32 x).map encB) 5 true 0)) := Keeps.new h _
  have hr := rdL_all (h := h.new (.cells ((out32 x).map encB) 5 true 0)) (b := h.next) (c := (out32 x).map encB) (e := 5) (r := true) (fz := 0) (by simp)
  have hr' : Gx.rdS 1 (⟨some ⟨h.next, 0, some 0⟩, 4, 4⟩ : Slc) (h.new (.cells ((out32 x).map encB) 5 true 0)) = some ((out32 x).map encB) := hr
  refine Wp.bnd hr' ?_
  have hlen : (((wl s).take i).map out32).flatten.length = 4 * i := by
   have : ∀ l : List UInt32, (l.map out32).flatten.length = 4 * l.length := fun l => by
    induction l with
    | nil => rfl
    | cons y l ih => rw [List.map_cons, List.flatten_cons, List.length_append, ih]; simp [out32]; omega
   rw [this, List.length_take, wl_length]; omega
  obtain ⟨t', h', e1, A', c1, _⟩ := (A.keeps k1).app (bytes := 1) (fun _ => rfl) (out32 x) (by rw [hlen]; simp [out32]; omega) (by omega) (Nat.le_trans kp.nx k1.nx)
  refine Wp.bnd e1 ?_
  rw [Gx.w1 (by omega)]
  refine ih (i + 1) t' h' (by omega) ?_ ?_
  ·exact Chg.beh (kp.trans k1) c1 fun y hy ⟨a, ha, e⟩ => by have := (A.lt a ha).2; omega
  ·rw [List.take_add_one, hx]
   simpa using A'
theorem hsum_spec {k0 : Nat} (hk : 200 ≤ k0) (D : CallF) {n0 : Nat} {h : AHeap} {hb : Nat} {s : St} {rest : List UInt8} {long : Nat} (H : Hash n0 h hb s rest long) (hrl : rest.length < 64) (hlong : long ≤ 140737488351300) (kg : KG 0 h) :
  Wp (sha_Hash_Sum k0 D (some ⟨hb, 0, none⟩) h) fun q => q.1 = ⟨⟨outSt (absorb s (rest ++ (128 :: List.replicate (zeroN rest.length) 0 ++ be64 (long * 8))))⟩⟩ ∧ Keeps h q.2 := by
 simp only [sha_Hash_Sum]
 obtain ⟨h1, eb, e1, k1, F1, H1⟩ := fork_spec k0 D H (by omega)
 refine Wp.bnd e1 ?_
 let h2 := h1.new (.cells [.int .u8 128] 5 true 0)
 have k2 : Keeps h1 h2 := Keeps.new h1 _
 have F2 := F1.keeps k2
 have L2 : Lst encB 5 h1.next h2 (⟨some ⟨h1.next, 0, some 0⟩, 1, 1⟩ : Slc) [128] := ⟨by simp, h1.next, some 0, rfl, by simp [h2, outB, encB], Nat.le_refl _, by simp [h2], .inl rfl⟩
 refine Wp.jn fun j2 hj2 => ?_
 unfold sha_Hash_Sum_l2
 have hz : zeroN rest.length < 64 := Nat.mod_lt _ (by decide)
 obtain ⟨bot2, b2⟩ := iterK_of (fun _ _ _ _ => none) (sha_Hash_Sum_l2b k0 D j2) (show zeroN rest.length + 1 ≤ k0 by omega)
 rw [b2]
 refine sm_l2 (k0 := k0) D j2 bot2 (n0 := h.next) (long := long) hrl (h0 := h1) ?_ F1 (zeroN rest.length) 0 _ h2 (by omega) k2 L2
 intro h3 t3 k3 L3
 subst hj2
 dsimp only
 obtain ⟨r, HS3, _, _⟩ := (H1.keeps k3).ok
 refine Wp.bnd rfl (Wp.bnd (sldI_at HS3.blk (hcells_long (wl_length s))) ?_)
 refine Wp.jn fun j1 hj1 => ?_
 unfold sha_Hash_Sum_l1
 obtain ⟨bot1, b1⟩ := iterK_of (fun _ _ _ _ _ => none) (sha_Hash_Sum_l1b k0 D j1) (show 8 + 1 ≤ k0 by omega)
 rw [b1]
 have ec : IntKind.wrap .u64 (IntKind.wrap .u64 (long : Int) * 8) = ((long * 8 : Nat) : Int) := by
  rw [wr_u64 (long : Int) (by omega) (by omega), wr_u64 _ (by omega) (by omega)]; omega
 rw [ec]
 have hbase : (128 :: List.replicate (zeroN rest.length) (0 : UInt8)).length ≤ 1000 := by simp; omega
 have L3' : Lst encB 5 h1.next h3 t3 (128 :: List.replicate (zeroN rest.length) 0 ++ (be64 (long * 8)).take 0) := by simpa using L3
 have step := sm_l1 (k0 := k0) D j1 bot1 (Q := fun q => q.1 = ⟨⟨outSt (absorb s (rest ++ (128 :: List.replicate (zeroN rest.length) 0 ++ be64 (long * 8))))⟩⟩ ∧ Keeps h q.2) (e := some ⟨eb, 0, none⟩) (base := 128 :: List.replicate (zeroN rest.length) 0) hbase (long * 8) (h0 := h1) ?_ 8 0 t3 h3 (by omega) k3 L3'
 ·exact step
 intro h4 t4 k4 L4
 subst hj1
 dsimp only
 obtain ⟨tb, sp, rfl, g4, _, _, _⟩ := L4.st
 have bo := bytesOf_out (h := h4) (b := tb) (sp := sp) (cap := (128 :: List.replicate (zeroN rest.length) 0 ++ be64 (long * 8)).length) (l := 128 :: List.replicate (zeroN rest.length) 0 ++ be64 (long * 8)) (e := 5) (r := true) (fz := 0) g4
 refine Wp.bnd bo ?_
 have F4 := F1.keeps k4
 have tl : (128 :: List.replicate (zeroN rest.length) 0 ++ be64 (long * 8)).length ≤ 100 := by rw [List.length_append, be64_length]; simp; omega
 have tz : (⟨⟨128 :: List.replicate (zeroN rest.length) 0 ++ be64 (long * 8)⟩⟩ : ByteArray).size ≤ 100 := by rw [size_mk]; exact tl
 refine Wp.call (write_spec (k0 := k0) (by omega) D F4 (kg.chg (k1.trans k4) fun f => f) (by have := kg.lt; omega) ⟨⟨128 :: List.replicate (zeroN rest.length) 0 ++ be64 (long * 8)⟩⟩ (by omega) (by omega) (by omega)) fun q ⟨q1, q2⟩ => ?_
 obtain ⟨u5, hh5⟩ := q
 simp only at q1 q2 ⊢
 obtain ⟨r5, HS5, _, _⟩ := q1.ok
 refine Wp.jn fun j0 hj0 => ?_
 have tk : ∀ (u : St) (r : Slc) (l : Int), (hcells (wl u) r l).take 8 = (wl u).map encU := fun u r l => rfl
 have ld5 := sldA_take (sp := none) HS5.blk (show 0 < 8 by decide) (by rw [hcells_length (wl_length _)]; decide)
 rw [tk] at ld5
 refine Wp.bnd rfl (Wp.bnd ld5 (Wp.bnd rfl ?_))
 unfold sha_Hash_Sum_l0
 obtain ⟨bot0, b0⟩ := iterK_of (fun _ _ _ _ => none) (sha_Hash_Sum_l0b k0 D j0) (show 8 + 1 ≤ k0 by omega)
 rw [b0]
 have k5 : Keeps h hh5 := Chg.beh (k1.trans k4) q2 fun x hx e => by have e : h.next ≤ x := e; omega
 refine sm_l0 (k0 := k0) D j0 bot0 (absorb s (rest ++ bl ⟨⟨128 :: List.replicate (zeroN rest.length) 0 ++ be64 (long * 8)⟩⟩)) (h0 := hh5) ?_ 8 0 ⟨none, 0, 0⟩ hh5 (by omega) (Chg.refl _ _) (Acc.nil _ _ _ _)
 intro h6 t6 k6 A6
 subst hj0
 dsimp only
 rcases A6.st with ⟨_, e⟩ | ⟨b, g⟩
 ·simp [outSt, out32] at e
 ·have hg := g.s
  subst hg
  have bo := bytesOf_out (h := h6) (b := b) (sp := some 2) (cap := (outSt (absorb s (rest ++ bl ⟨⟨128 :: List.replicate (zeroN rest.length) 0 ++ be64 (long * 8)⟩⟩))).length) (l := outSt (absorb s (rest ++ bl ⟨⟨128 :: List.replicate (zeroN rest.length) 0 ++ be64 (long * 8)⟩⟩))) (e := 5) (r := true) (fz := 0) g.blk
  exact Wp.bnd bo (Wp.of ⟨rfl, k5.trans k6⟩)
end Ge.B
namespace Ge.B
open Go Gx Go.Proofs
def catL (xs : List ByteArray) : List UInt8 := (xs.map bl).flatten
theorem zeroN_mod (n : Nat) : zeroN (n % 64) = zeroN n := by unfold zeroN; rw [Nat.mod_mod]
theorem catL_take {xs : List ByteArray} {i : Nat} {x : ByteArray} (hx : xs[i]? = some x) : catL (xs.take (i + 1)) = catL (xs.take i) ++ bl x := by
 unfold catL
 rw [List.take_add_one, hx]
 simp
theorem catL_le (xs : List ByteArray) (i : Nat) : (catL (xs.take i)).length ≤ (catL xs).length := by
 have : catL xs = catL (xs.take i) ++ catL (xs.drop i) := by
  unfold catL
  rw [← List.flatten_append, ← List.map_append, List.take_append_drop]
 rw [this, List.length_append]; omega
theorem sum_spec {k0 : Nat} (hk : 200 ≤ k0) (D : CallF) {h : AHeap} {y : Slc} {xs : List ByteArray} (kg : KG 0 h) (R : Row encS h y xs) (hx : (catL xs).length ≤ 140737488351300) (hkx : (catL xs).length < 64 * k0) (hxl : xs.length < k0) (hxl2 : xs.length < 9223372036854775807) :
  Wp (sha_Sum k0 D y h) fun q => q.1 = ⟨⟨digest (catL xs)⟩⟩ ∧ Keeps h q.2 := by
 simp only [sha_Sum]
 obtain ⟨h1, hb, e1, k1, hle, H1⟩ := hnew_spec k0 D h
 refine Wp.bnd e1 ?_
 refine Wp.jn fun j hj => ?_
 unfold sha_Sum_l0
 obtain ⟨bot, b⟩ := iterK_of (fun _ _ _ _ _ => none) (sha_Sum_l0b k0 D j) (show xs.length + 1 ≤ k0 by omega)
 rw [b, R.1]
 have H1' : Hash h.next h1 hb st0 [] 0 := H1
 have main : ∀ (Q : ByteArray × AHeap → Prop), (∀ g, Chg (fun x => h.next ≤ x) h1 g → Hash h.next g hb (absorb st0 (catL xs)) (restOf (catL xs)) (catL xs).length → Wp (j (some ⟨hb, 0, none⟩) g) Q) →
   ∀ (d i : Nat) (g : AHeap), i + d = xs.length → Chg (fun x => h.next ≤ x) h1 g → Hash h.next g hb (absorb st0 (catL (xs.take i))) (restOf (catL (xs.take i))) (catL (xs.take i)).length →
    Wp (iterK bot (d + 1) (sha_Sum_l0b k0 D j) (some ⟨hb, 0, none⟩) y (xs.length : Int) (i : Int) g) Q := fun Q hQ d => by
  induction d with
  | zero =>
   intro i g hi c H
   rw [iterK_s]; simp only [sha_Sum_l0b]
   obtain rfl : i = xs.length := by omega
   rw [List.take_length] at H
   exact Wp.ifn (by simp) (hQ g c H)
  | succ d ih =>
   intro i g hi c H
   rw [iterK_s]; simp only [sha_Sum_l0b]
   have kp : Keeps h g := Chg.beh k1 c fun x hx e => by have e : h.next ≤ x := e; omega
   refine Wp.ifp (by simp; omega) ?_
   obtain ⟨x, hxi⟩ := isome (l := xs) (i := i) (by omega)
   obtain ⟨q, i1, i2⟩ := (R.keeps kp).ldS hxi
   refine Wp.bnd i1 (Wp.bnd i2 ?_)
   have hc := catL_take hxi
   have hle' := catL_le xs (i + 1)
   rw [hc, List.length_append, bl_length] at hle'
   have hrl := restOf_length (catL (xs.take i))
   refine Wp.call (write_spec (k0 := k0) (by omega) D H (kg.chg kp fun f => f) (by have := kg.lt; omega) x (by omega) (by omega) (by omega)) fun q ⟨q1, q2⟩ => ?_
   rw [Gx.w1 (by omega)]
   refine ih (i + 1) q.2 (by omega) (c.trans q2) ?_
   rw [hc, List.length_append, bl_length, ← absorb_app (bl x) _ st0 (catL (xs.take i)) (Nat.le_refl _), ← restOf_app]
   exact q1
 refine main _ ?_ xs.length 0 h1 (by omega) (Chg.refl _ _) ?_
 ·intro g c H
  subst hj
  dsimp only
  have kp : Keeps h g := Chg.beh k1 c fun x hx e => by have e : h.next ≤ x := e; omega
  refine Wp.call (hsum_spec hk D H (by rw [restOf_length]; omega) (by omega) (kg.chg kp fun f => f)) fun q ⟨q1, q2⟩ => ?_
  refine Wp.of ⟨?_, kp.trans q2⟩
  rw [q1, restOf_length, zeroN_mod, absorb_app _ _ _ _ (Nat.le_refl _)]
  rfl
 ·have e0 : catL (xs.take 0) = [] := rfl
  rw [e0, absorb_lt (by simp), restOf_lt (by simp)]
  exact H1'
end Ge.B
namespace Ge.B
open Go Gx
def fixL (n : Nat) : Nat → List UInt8
 | 0 => []
 | k + 1 => UInt8.ofNat (n / 256 ^ k) :: fixL n k
theorem fixL_length (n : Nat) : ∀ k, (fixL n k).length = k
 | 0 => rfl
 | k + 1 => by simp [fixL, fixL_length n k]
theorem fixL_get (n : Nat) : ∀ (k i : Nat), i < k → (fixL n k)[i]? = some (UInt8.ofNat (n / 256 ^ (k - 1 - i)))
 | 0, i, h => by omega
 | k + 1, 0, _ => by simp [fixL]
 | k + 1, i + 1, h => by
  simp only [fixL, List.getElem?_cons_succ]
  rw [fixL_get n k i (by omega)]
  congr 4; omega
def numL (a : Nat) : List UInt8 → Nat
 | [] => a
 | c :: l => numL (a * 256 + c.toNat) l
theorem toNat_ofNat (n : Nat) : (UInt8.ofNat n).toNat = n % 256 := by simp
theorem ofNat_mod (n : Nat) : UInt8.ofNat (n % 256) = UInt8.ofNat n := by
 apply UInt8.toNat_inj.1
 rw [toNat_ofNat, toNat_ofNat]; omega
end Ge.B
namespace Ge.B
open Go Gx Go.Proofs
theorem ldS_at {h : AHeap} {b o : Nat} {sp : Option Nat} {c : List Value} {e : TypeId} {r : Bool} {fz : Nat} {x : ByteArray} (hb : h.get b = some (.cells c e r fz)) (hc : c[o]? = some (.string x)) : ldS ⟨b, o, sp⟩ h = some x := by
 simp [ldS, AHeap.rd1, hb, hc, decS]
theorem wu8 (m : Nat) : IntKind.wrap .u8 (m : Int) = ((m % 256 : Nat) : Int) := by rw [Go.IntKind.wrap_u8]; omega
theorem td256 (r : Nat) : Int.tdiv (r : Int) 256 = ((r / 256 : Nat) : Int) := rfl
def fixP (n k i : Nat) : List UInt8 := (List.range k).map fun j => if k ≤ j + i then UInt8.ofNat (n / 256 ^ (k - 1 - j)) else 0
theorem fixP_length (n k i : Nat) : (fixP n k i).length = k := by simp [fixP]
theorem fixP_zero (n k : Nat) : fixP n k 0 = List.replicate k 0 := by
 apply List.ext_getElem?
 intro j
 simp only [fixP, List.getElem?_map, List.getElem?_replicate]
 by_cases hj : j < k
 ·simp [hj]; omega
 ·simp [hj]
theorem fixP_all (n k : Nat) : fixP n k k = fixL n k := by
 apply List.ext_getElem?
 intro j
 by_cases hj : j < k
 ·rw [fixL_get n k j hj]; simp [fixP, hj]
 ·rw [List.getElem?_eq_none (by rw [fixP_length]; omega), List.getElem?_eq_none (by rw [fixL_length]; omega)]
theorem fixP_set {n k i : Nat} (hi : i < k) : (fixP n k i).set (k - 1 - i) (UInt8.ofNat (n / 256 ^ i)) = fixP n k (i + 1) := by
 apply List.ext_getElem?
 intro j
 by_cases hj : j < k
 ·rw [List.getElem?_set]
  by_cases he : k - 1 - i = j
  ·rw [if_pos he, if_pos (by rw [fixP_length]; omega)]
   have : i = k - 1 - j := by omega
   subst this
   simp [fixP, hj]
   omega
  ·rw [if_neg he]
   simp only [fixP, List.getElem?_map, List.getElem?_range hj, Option.map_some, Option.some.injEq]
   by_cases h1 : k ≤ j + i
   ·rw [if_pos h1, if_pos (by omega)]
   ·rw [if_neg h1, if_neg (by omega)]
 ·rw [List.getElem?_eq_none (by rw [List.length_set, fixP_length]; omega), List.getElem?_eq_none (by rw [fixP_length]; omega)]
abbrev rfT := Int → Slc → Int → AHeap → Option ((ByteArray × Int) × AHeap)
theorem rfix_l0 (K : Nat) (D : CallF) (j) (bot : rfT) {n k : Nat} (hn : n < 9223372036854775808) (hk : k ≤ 8) {b cap : Nat} {sp : Option Nat} {e : TypeId} : ∀ (m i : Nat) (h : AHeap), i + m = k → h.get b = some (.cells ((fixP n k i).map encB) e true 0) →
  iterK bot (m + 1) (ref01_Fixed_l0b K D j) ((n / 256 ^ i : Nat) : Int) (⟨some ⟨b, 0, sp⟩, k, cap⟩ : Slc) ((k : Int) - 1 - (i : Int)) h = j (⟨some ⟨b, 0, sp⟩, k, cap⟩ : Slc) (h.set b (.cells ((fixL n k).map encB) e true 0))
 | 0, i, h, hi, hb => by
  obtain rfl : i = k := by omega
  rw [fixP_all] at hb
  rw [iterK_s]; simp only [ref01_Fixed_l0b]
  refine ifn (by simp <;> omega) ?_
  rw [set_self hb]
 | m + 1, i, h, hi, hb => by
  rw [iterK_s]; simp only [ref01_Fixed_l0b]
  refine ifp (by simp; omega) ?_
  have e2 : ((k : Int) - 1 - (i : Int)) = ((k - 1 - i : Nat) : Int) := by omega
  rw [e2]
  refine bnd (idxL_out (by omega)) ?_
  rw [wu8]
  refine bnd (stB_out hb (by rw [fixP_length]; omega) (Nat.mod_lt _ (by decide))) ?_
  have hle : n / 256 ^ i ≤ n := Nat.div_le_self _ _
  have hle2 : n / 256 ^ i / 256 ≤ n / 256 ^ i := Nat.div_le_self _ _
  rw [td256, w64 ((n / 256 ^ i / 256 : Nat) : Int) (by omega), w64 (((k - 1 - i : Nat) : Int) - 1) (by omega), ofNat_mod, fixP_set (by omega)]
  have e3 : n / 256 ^ i / 256 = n / 256 ^ (i + 1) := by rw [Nat.div_div_eq_div_mul, Nat.pow_succ]
  have e4 : (((k - 1 - i : Nat) : Int) - 1) = (k : Int) - 1 - ((i + 1 : Nat) : Int) := by omega
  rw [e3, e4]
  refine (rfix_l0 K D j bot hn hk (e := e) m (i + 1) (h.set b (.cells ((fixP n k (i + 1)).map encB) e true 0)) (by omega) (by simp)).trans ?_
  rw [set_set]
theorem must_spec {kf : Nat} (hkf : 9 ≤ kf) (D : CallF) (n k : Nat) (h : AHeap) (hk1 : 1 ≤ k) (hk7 : k ≤ 7) (hn : n < 9223372036854775808) (hlt : n < 256 ^ k) :
  ∃ h', ref01_Must kf D (n : Int) (k : Int) h = some ((⟨⟨fixL n k⟩⟩ : ByteArray), h') ∧ Keeps h h' := by
 simp only [ref01_Must]
 let H := (h.new (.cells ((List.replicate k (0 : UInt8)).map encB) 5 true 0)).set h.next (.cells ((fixL n k).map encB) 5 true 0)
 refine ⟨H, bnd (v := (((⟨⟨fixL n k⟩⟩ : ByteArray), 0), H)) ?_ rfl, Chg.beh (Keeps.new h _) (Chg.set (S := fun x => x = h.next) (.inr rfl)) (fun x hx e => by have : x = h.next := e; omega)⟩
 simp only [ref01_Fixed]
 refine jn ?_
 refine ifn (by simp <;> omega) ?_
 refine ifn (by simp <;> omega) ?_
 refine ifn (by simp <;> omega) ?_
 refine ifp (by simp; omega) ?_
 have e1 : IntKind.wrap .i64 (8 * (k : Int)) = ((8 * k : Nat) : Int) := by rw [w64 _ (by omega)]; omega
 rw [e1]
 refine ifp (by omega) ?_
 rw [shr64 n (8 * k) (by omega), Nat.pow_mul, show (2 : Nat) ^ 8 = 256 from rfl]
 refine ifn (by simp [Nat.div_eq_of_lt hlt]) ?_
 refine ifp (by omega) ?_
 refine jn ?_
 rw [Int.toNat_natCast, zeros_bytes]
 unfold ref01_Fixed_l0
 have hb : (h.new (.cells ((List.replicate k (0 : UInt8)).map encB) 5 true 0)).get h.next = some (.cells ((fixP n k 0).map encB) 5 true 0) := by rw [fixP_zero]; simp
 generalize hj : (fun (b7 : Slc) (h8 : AHeap) => (bytesOf h8 b7).bind _) = j
 obtain ⟨bot', e2⟩ := iterK_of (α := rfT) (fun _ _ _ _ => none) (ref01_Fixed_l0b kf D j) (show k + 1 ≤ kf by omega)
 rw [e2, w64 ((k : Int) - 1) (by omega)]
 have := rfix_l0 kf D j bot' (n := n) (k := k) hn (by omega) (b := h.next) (cap := k) (sp := some 0) (e := 5) k 0 _ (by omega) hb
 simp only [Nat.pow_zero, Nat.div_one, Int.natCast_zero, Int.sub_zero] at this
 refine this.trans ?_
 subst hj
 have hg : H.get h.next = some (.cells ((fixL n k).map encB) 5 true 0) := by simp [H]
 have := bytesOf_out (cap := k) (sp := some 0) hg
 rw [fixL_length] at this
 exact bnd this rfl
end Ge.B
namespace Ge.B
open Go Gx Go.Proofs
theorem num_step {a i n : Nat} (h : a < 256 ^ i) (hi : i < n) (hn : n ≤ 7) : a * 256 + 256 ≤ 72057594037927936 := by
 have h1 : 256 ^ i ≤ 256 ^ 6 := Nat.pow_le_pow_right (by decide) (by omega)
 have : (256 : Nat) ^ 6 = 281474976710656 := by decide
 omega
theorem num_step2 {a i : Nat} {c : UInt8} (h : a < 256 ^ i) : a * 256 + c.toNat < 256 ^ (i + 1) := by
 have hc : c.toNat < 256 := UInt8.toNat_lt c
 rw [Nat.pow_succ]; omega
abbrev nuT := ByteArray → Int → Int → AHeap → Option ((Int) × AHeap)
theorem num_l0 (K : Nat) (D : CallF) (j) (bot : nuT) (s : ByteArray) (h : AHeap) (hs : s.size ≤ 7) : ∀ (m i a : Nat), i + m = s.size → a < 256 ^ i →
  iterK bot (m + 1) (ref01_Num_l0b K D j) s (a : Int) (i : Int) h = j ((numL a ((bl s).drop i) : Nat) : Int) h
 | 0, i, a, hi, ha => by
  obtain rfl : i = s.size := by omega
  rw [iterK_s]; simp only [ref01_Num_l0b]
  refine ifn (by simp) ?_
  rw [List.drop_eq_nil_of_le (by rw [bl_length]; omega)]; rfl
 | m + 1, i, a, hi, ha => by
  rw [iterK_s]; simp only [ref01_Num_l0b]
  refine ifp (by simp; omega) ?_
  obtain ⟨x, hx⟩ := isome (l := bl s) (i := i) (by rw [bl_length]; omega)
  refine bnd (idxS_of hx) ?_
  have hx' : x.toNat < 256 := UInt8.toNat_lt x
  have hb := num_step ha (show i < s.size by omega) hs
  have e1 : IntKind.wrap .i64 (IntKind.wrap .i64 ((a : Int) * 256) + IntKind.wrap .i64 (x.toNat : Int)) = ((a * 256 + x.toNat : Nat) : Int) := by
   rw [w64 ((a : Int) * 256) (by omega), w64 (x.toNat : Int) (by omega), w64 _ (by omega)]; omega
  rw [e1, w1 (by omega), dropc hx]
  exact num_l0 K D j bot s h hs m (i + 1) _ (by omega) (num_step2 ha)
theorem rnum_spec {kf : Nat} (hkf : 9 ≤ kf) (D : CallF) (s : ByteArray) (h : AHeap) (hs : s.size ≤ 7) : ref01_Num kf D s h = some (((numL 0 (bl s) : Nat) : Int), h) := by
 simp only [ref01_Num]
 refine jn ?_
 unfold ref01_Num_l0
 obtain ⟨bot', e2⟩ := iterK_of (α := nuT) (fun _ _ _ _ => none) (ref01_Num_l0b kf D fun (n1 : Int) (h2 : AHeap) => some (n1, h2)) (show s.size + 1 ≤ kf by omega)
 rw [e2]
 have := num_l0 kf D (fun (n1 : Int) (h2 : AHeap) => some (n1, h2)) bot' s h hs s.size 0 0 (by omega) (by decide)
 refine this.trans ?_
 rw [List.drop_zero]
theorem ba_app (a b : List UInt8) : (⟨⟨a⟩⟩ : ByteArray) ++ (⟨⟨b⟩⟩ : ByteArray) = ⟨⟨a ++ b⟩⟩ := by
 apply bl_inj
 simp [bl]
end Ge.B
namespace Ge.B
open Go Gx Go.Proofs
theorem turn_spec (k0 : Nat) (D : CallF) (x : UInt32) (n : Nat) (hn : 0 < n ∧ n < 32) (h : AHeap) : ref02_turn k0 D (x.toNat : Int) (n : Int) h = some (((rotr x n).toNat : Int), h) := by
 simp only [ref02_turn]
 have e : IntKind.wrap .i64 (32 - (n : Int)) = ((32 - n : Nat) : Int) := sw64 (by omega) (by omega)
 rw [e, if_pos (by omega), if_pos (by omega), Int.toNat_natCast, Int.toNat_natCast]
 have m1 : min (32 - n) (IntKind.bits .u32) = 32 - n := Nat.min_eq_left (by show 32 - n ≤ 32; omega)
 have m2 : min n (IntKind.bits .u32) = n := Nat.min_eq_left (by show n ≤ 32; omega)
 have p1 : (2 : Int) ^ (32 - n) = ((2 ^ (32 - n) : Nat) : Int) := by simp
 have p2 : (2 : Int) ^ n = ((2 ^ n : Nat) : Int) := by simp
 rw [m1, m2, p1, p2, shlU x (32 - n) (by omega), shrU x n (by omega), orU]
 unfold rotr
 rw [UInt32.or_comm]
theorem rw_l1 {K : Nat} (hK : 9 ≤ K) (D : CallF) (j) (bot) {Q : List Value × AHeap → Prop} {h0 : AHeap} {s : ByteArray} (hs : s.size = 64) {yb wb : Nat} (hwb : h0.next ≤ wb)
  {f : Nat → UInt32} (hf : ∀ i, i < 16 → f i = wAt (bl s) i) {g0 : ABlk} (hyw : yb ≠ wb)
  (hj : ∀ h, Keeps h0 h → h.get yb = some g0 → h.get wb = some (.cells (filU f 64 16) 174 true 0) → Gx.Wp (j (some ⟨yb, 0, none⟩) (some ⟨wb, 0, none⟩) h) Q) :
  ∀ (d i : Nat) (h : AHeap), i + d = 16 → Keeps h0 h → h.get yb = some g0 → h.get wb = some (.cells (filU f 64 i) 174 true 0) →
   Gx.Wp (iterK bot (d + 1) (ref02_words_l1b K D j) s (some ⟨yb, 0, none⟩) (some ⟨wb, 0, none⟩) (i : Int) h) Q := fun d => by
 induction d with
 | zero =>
  intro i h hi kp hy hb
  rw [iterK_s]; simp only [ref02_words_l1b]
  obtain rfl : i = 16 := by omega
  exact Gx.Wp.ifn (by simp) (hj h kp hy hb)
 | succ d ih =>
  intro i h hi kp hy hb
  rw [iterK_s]; simp only [ref02_words_l1b]
  refine Gx.Wp.ifp (by simp; omega) ?_
  have e0 : IntKind.wrap .i64 (4 * (i : Int)) = ((4 * i : Nat) : Int) := sw64 (by omega) (by omega)
  have e1 : IntKind.wrap .i64 (((4 * i : Nat) : Int) + 4) = ((4 * i + 4 : Nat) : Int) := sw64 (by omega) (by omega)
  rw [e0, e1]
  have hl : (bl s).length = 64 := by rw [bl_length]; exact hs
  obtain ⟨a, ga⟩ := isome (l := bl s) (i := 4 * i) (by omega)
  obtain ⟨b, gb⟩ := isome (l := bl s) (i := 4 * i + 1) (by omega)
  obtain ⟨c, gc⟩ := isome (l := bl s) (i := 4 * i + 2) (by omega)
  obtain ⟨e, ge⟩ := isome (l := bl s) (i := 4 * i + 3) (by omega)
  have hsub := subS_of (s := s) (lo := some ((4 * i : Nat) : Int)) (hi := some ((4 * i + 4 : Nat) : Int)) (i := 4 * i) (j := 4 * i + 4) rfl rfl (by omega) (by omega)
  have hl4 : ((bl s).take (4 * i + 4)).drop (4 * i) = [a, b, c, e] := by
   apply List.ext_getElem?
   intro q
   rw [List.getElem?_drop, List.getElem?_take]
   match q with
   | 0 => rw [if_pos (by omega)]; exact ga
   | 1 => rw [if_pos (by omega)]; exact gb
   | 2 => rw [if_pos (by omega)]; exact gc
   | 3 => rw [if_pos (by omega)]; exact ge
   | q + 4 => rw [if_neg (by omega)]; simp
  rw [hl4] at hsub
  refine Gx.Wp.bnd hsub (Gx.Wp.bnd (rnum_spec (kf := K) hK D _ h (by show 4 ≤ 7; decide)) (Gx.Wp.bnd rfl (Gx.Wp.bnd (sidxA (by omega)) ?_)))
  have ev : IntKind.wrap .u32 ((numL 0 (bl (⟨⟨[a, b, c, e]⟩⟩ : ByteArray)) : Nat) : Int) = ((f i).toNat : Int) := by
   rw [hf i (by omega)]
   unfold wAt
   rw [ga, gb, gc, ge]
   simp only [Option.getD_some]
   rw [be32_nat, bl_mk]
   simp only [numL]
   have := a.toNat_lt; have := b.toNat_lt; have := c.toNat_lt; have := e.toNat_lt
   rw [wr_u32 _ (by omega) (by omega)]
   omega
  rw [ev]
  have hst : st1 ⟨wb, i, none⟩ (.int .u32 ((f i).toNat : Int)) h = some (h.set wb (.cells (filU f 64 (i + 1)) 174 true 0)) := by
   rw [st1_of hb (by rw [filU_length (by omega)]; omega) rfl, filU_set (by omega)]
  refine Gx.Wp.bnd hst ?_
  rw [Gx.w1 (by omega)]
  exact ih (i + 1) _ (by omega) (kp.set hwb) (by rw [AHeap.get_set, if_neg hyw]; exact hy) (sset_get _ _ _)
theorem rw_l0 (K : Nat) (D : CallF) (j) (bot) {Q : List Value × AHeap → Prop} {h0 : AHeap} {yb wb : Nat} (hwb : h0.next ≤ wb) {m : Nat → UInt32} {g0 : ABlk} (hyw : yb ≠ wb)
  (hj : ∀ h, Keeps h0 h → h.get yb = some g0 → h.get wb = some (.cells (filU (sched m) 64 64) 174 true 0) → Gx.Wp (j (some ⟨yb, 0, none⟩) (some ⟨wb, 0, none⟩) h) Q) :
  ∀ (d i : Nat) (h : AHeap), i + d = 64 → 16 ≤ i → Keeps h0 h → h.get yb = some g0 → h.get wb = some (.cells (filU (sched m) 64 i) 174 true 0) →
   Gx.Wp (iterK bot (d + 1) (ref02_words_l0b K D j) (some ⟨yb, 0, none⟩) (some ⟨wb, 0, none⟩) (i : Int) h) Q := fun d => by
 induction d with
 | zero =>
  intro i h hi h16 kp hy hb
  rw [iterK_s]; simp only [ref02_words_l0b]
  obtain rfl : i = 64 := by omega
  exact Gx.Wp.ifn (by simp) (hj h kp hy hb)
 | succ d ih =>
  intro i h hi h16 kp hy hb
  rw [iterK_s]; simp only [ref02_words_l0b]
  refine Gx.Wp.ifp (by simp; omega) ?_
  have e15 : IntKind.wrap .i64 ((i : Int) - 15) = ((i - 15 : Nat) : Int) := sw64 (by omega) (by omega)
  have e2 : IntKind.wrap .i64 ((i : Int) - 2) = ((i - 2 : Nat) : Int) := sw64 (by omega) (by omega)
  have e16 : IntKind.wrap .i64 ((i : Int) - 16) = ((i - 16 : Nat) : Int) := sw64 (by omega) (by omega)
  have e7 : IntKind.wrap .i64 ((i : Int) - 7) = ((i - 7 : Nat) : Int) := sw64 (by omega) (by omega)
  rw [e15, e2, e16, e7]
  have ld : ∀ jj, jj < i → ldI .u32 ⟨wb, jj, none⟩ h = some ((sched m jj).toNat : Int) := fun jj hjj => sldI_at hb (filU_get hjj)
  have same : ∀ jj, jj < i → SameW [h, h, h, h] (fun H37 => (ldI .u32 ⟨wb, jj, none⟩ H37).bind fun y36 => some (.int .u32 y36)) (.int .u32 ((sched m jj).toNat : Int)) := fun jj hjj H hH => by
   have : H = h := by simpa using hH
   subst this
   show (ldI .u32 ⟨wb, jj, none⟩ H).bind _ = _
   rw [ld jj hjj]; rfl
  refine Gx.Wp.bnd rfl (Gx.Wp.bnd (sidxA (by omega)) (Gx.Wp.bnd (ld _ (by omega)) (Gx.Wp.bnd rfl (Gx.Wp.bnd (sidxA (by omega)) (Gx.Wp.bnd (ld _ (by omega)) ?_)))))
  refine Gx.Wp.bnd (turn_spec K D _ 7 (by decide) h) (Gx.Wp.bnd (turn_spec K D _ 18 (by decide) h) (Gx.Wp.bnd (turn_spec K D _ 17 (by decide) h) (Gx.Wp.bnd (turn_spec K D _ 19 (by decide) h) ?_)))
  refine Gx.Wp.bnd rfl (Gx.Wp.bnd (sidxA (by omega)) (Gx.Wp.bnd (ld _ (by omega)) (Gx.Wp.gp (same _ (by omega)) ?_)))
  refine Gx.Wp.bnd rfl (Gx.Wp.bnd (sidxA (by omega)) (Gx.Wp.bnd (ld _ (by omega)) (Gx.Wp.gp (same _ (by omega)) ?_)))
  refine Gx.Wp.bnd rfl (Gx.Wp.bnd (sidxA (by omega)) ?_)
  have s3 : Int.fdiv ((sched m (i - 15)).toNat : Int) 8 = ((sched m (i - 15) >>> 3).toNat : Int) := shrU _ 3 (by decide)
  have s10 : Int.fdiv ((sched m (i - 2)).toNat : Int) 1024 = ((sched m (i - 2) >>> 10).toNat : Int) := shrU _ 10 (by decide)
  simp only [s3, s10, xorU, addU]
  have ev : sched m (i - 16) + sched m (i - 7) + (rotr (sched m (i - 15)) 7 ^^^ rotr (sched m (i - 15)) 18 ^^^ sched m (i - 15) >>> 3) + (rotr (sched m (i - 2)) 17 ^^^ rotr (sched m (i - 2)) 19 ^^^ sched m (i - 2) >>> 10) = sched m i := by
   rw [sched_hi (i := i) h16]
   unfold sg0 sg1
   ac_rfl
  rw [ev]
  have hst : st1 ⟨wb, i, none⟩ (.int .u32 ((sched m i).toNat : Int)) h = some (h.set wb (.cells (filU (sched m) 64 (i + 1)) 174 true 0)) := by
   rw [st1_of hb (by rw [filU_length (by omega)]; omega) rfl, filU_set (by omega)]
  refine Gx.Wp.bnd hst ?_
  rw [Gx.w1 (by omega)]
  exact ih (i + 1) _ (by omega) (by omega) (kp.set hwb) (by rw [AHeap.get_set, if_neg hyw]; exact hy) (sset_get _ _ _)
theorem words_spec {k0 : Nat} (hk : 100 ≤ k0) (D : CallF) (s : ByteArray) (hs : s.size = 64) (h : AHeap) :
  Gx.Wp (ref02_words k0 D s h) fun r => r.1 = (List.range 64).map (fun i => encU (sched (wAt (bl s)) i)) ∧ Keeps h r.2 := by
 simp only [ref02_words]
 let h1 := h.new (.cells (List.replicate 64 (.int .u32 0)) 174 true 0)
 let h2 := h1.new (.cells (List.replicate 64 (.int .u32 0)) 174 true 0)
 have n1 : h1.next = h.next + 1 := rfl
 have k2 : Keeps h h2 := (Keeps.new h _).trans (Keeps.new h1 _)
 have y2 : h2.get h.next = some (.cells (List.replicate 64 (.int .u32 0)) 174 true 0) := ((Keeps.new h1 _).oth _ (by omega) (fun f => f)).trans (by simp [h1])
 have g2 : h2.get h1.next = some (.cells (filU (sched (wAt (bl s))) 64 0) 174 true 0) := by rw [filU_zero]; simp [h2]
 refine Gx.Wp.jn fun j1 hj1 => ?_
 unfold ref02_words_l1
 obtain ⟨bot1, e1⟩ := iterK_of (fun _ _ _ _ _ => none) (ref02_words_l1b k0 D j1) (show 16 + 1 ≤ k0 by omega)
 rw [e1]
 refine rw_l1 (by omega) D j1 bot1 hs (Nat.le_succ _) (f := sched (wAt (bl s))) (fun i hi => sched_lo hi) (Nat.ne_of_lt (Nat.lt_succ_self _)) ?_ 16 0 h2 (by omega) k2 y2 g2
 intro h3 k3 y3 g3
 subst hj1
 refine Gx.Wp.jn fun j2 hj2 => ?_
 unfold ref02_words_l0
 obtain ⟨bot2, e2⟩ := iterK_of (fun _ _ _ _ => none) (ref02_words_l0b k0 D j2) (show 48 + 1 ≤ k0 by omega)
 rw [e2]
 refine rw_l0 k0 D j2 bot2 (Nat.le_succ _) (Nat.ne_of_lt (Nat.lt_succ_self _)) ?_ 48 16 h3 (by omega) (by omega) k3 y3 g3
 intro h4 k4 y4 g4
 subst hj2
 rw [filU_all] at g4
 obtain ⟨L, hL⟩ : ∃ L, L = (List.range 64).map fun i => encU (sched (wAt (bl s)) i) := ⟨_, rfl⟩
 rw [← hL] at g4 ⊢
 have hlen : L.length = 64 := by rw [hL]; simp
 have l3 := sldA_at (sp := none) g4 hlen
 have s3 := sstL_at (sp := none) y4 (by simp) hlen (by rw [hL]; exact allOne_U _ _) (by decide)
 have l4 := sldA_at (sp := none) (sset_get h4 h.next (.cells L 174 true 0)) hlen
 have hd : decA 64 (.agg ⟨L⟩) = some L := by
  show (bif Nat.beq L.length 64 then some L else none) = some L
  rw [hlen]; rfl
 exact Gx.Wp.bnd rfl (Gx.Wp.bnd l3 (Gx.Wp.bnd rfl (Gx.Wp.bnd s3 (Gx.Wp.bnd rfl (Gx.Wp.bnd l4 (Gx.Wp.bnd hd (Gx.Wp.of ⟨rfl, k4.set (Nat.le_refl _)⟩)))))))
end Ge.B
namespace Ge.B
open Go Gx Go.Proofs
theorem fix_be64 (n : Nat) : fixL n 8 = be64 n := by simp [fixL, be64, b8]
theorem fix_out (x : UInt32) : fixL x.toNat 4 = out32 x := by simp [fixL, out32, b8]
theorem must8_spec {kf : Nat} (hkf : 9 ≤ kf) (D : CallF) (n : Nat) (h : AHeap) (hn : n < 9223372036854775808) :
  ∃ h', ref01_Must kf D (n : Int) 8 h = some ((⟨⟨be64 n⟩⟩ : ByteArray), h') ∧ Keeps h h' := by
 rw [← fix_be64]
 simp only [ref01_Must]
 let H := (h.new (.cells ((List.replicate 8 (0 : UInt8)).map encB) 5 true 0)).set h.next (.cells ((fixL n 8).map encB) 5 true 0)
 refine ⟨H, bnd (v := (((⟨⟨fixL n 8⟩⟩ : ByteArray), 0), H)) ?_ rfl, Keeps.set (Keeps.new h _) (Nat.le_refl _)⟩
 simp only [ref01_Fixed]
 refine jn ?_
 refine ifn (by simp) ?_
 refine ifn (by simp) ?_
 refine ifn (by simp <;> omega) ?_
 refine ifn (by simp) ?_
 refine ifn (by decide) ?_
 refine ifp (by omega) ?_
 refine jn ?_
 have e8 : ((8 : Int)).toNat = 8 := rfl
 rw [e8, zeros_bytes]
 unfold ref01_Fixed_l0
 have hb : (h.new (.cells ((List.replicate 8 (0 : UInt8)).map encB) 5 true 0)).get h.next = some (.cells ((fixP n 8 0).map encB) 5 true 0) := by rw [fixP_zero]; simp
 generalize hj : (fun (b7 : Slc) (h8 : AHeap) => (bytesOf h8 b7).bind _) = j
 obtain ⟨bot', e2⟩ := iterK_of (α := rfT) (fun _ _ _ _ => none) (ref01_Fixed_l0b kf D j) (show 8 + 1 ≤ kf by omega)
 rw [e2, w64 ((8 : Int) - 1) (by omega)]
 have := rfix_l0 kf D j bot' (n := n) (k := 8) hn (by omega) (b := h.next) (cap := 8) (sp := some 0) (e := 5) 8 0 _ (by omega) hb
 simp only [Nat.pow_zero, Nat.div_one, Int.natCast_zero, Int.sub_zero] at this
 refine this.trans ?_
 subst hj
 have hg : H.get h.next = some (.cells ((fixL n 8).map encB) 5 true 0) := by simp [H]
 have := bytesOf_out (cap := 8) (sp := some 0) hg
 rw [fixL_length] at this
 exact bnd this rfl
theorem kl_eq : ((List.range 64).map fun i => encU (kAt i)) = shaK.map encU := by
 have e : shaK = (List.range 64).map kAt := by decide +kernel
 rw [e, List.map_map]; rfl
theorem const_spec (k0 : Nat) (D : CallF) (h : AHeap) : ∃ h', ref02_constants k0 D h = some ((List.range 64).map (fun i => encU (kAt i)), h') ∧ Keeps h h' := by
 simp only [ref02_constants]
 have g1 : (h.new (.cells (List.replicate 64 (.int .u32 0)) 174 true 0)).get h.next = some (.cells (List.replicate 64 (.int .u32 0)) 174 true 0) := by simp
 obtain ⟨L, hL⟩ : ∃ L, L = shaK.map encU := ⟨_, rfl⟩
 have hlen : L.length = 64 := by rw [hL]; rfl
 have h1 : allOne L = true := by rw [hL]; rfl
 have s1 := sstL_at (sp := none) g1 (by simp) hlen h1 (by decide)
 have l1 := sldA_at (sp := none) (sset_get (h.new (.cells (List.replicate 64 (.int .u32 0)) 174 true 0)) h.next (.cells L 174 true 0)) hlen
 have hd : decA 64 (.agg ⟨L⟩) = some L := by
  show (bif Nat.beq L.length 64 then some L else none) = some L
  rw [hlen]; rfl
 refine ⟨(h.new (.cells (List.replicate 64 (.int .u32 0)) 174 true 0)).set h.next (.cells L 174 true 0), ?_, Keeps.set (Keeps.new h _) (Nat.le_refl _)⟩
 rw [kl_eq, ← hL]
 have s1' := s1
 rw [hL] at s1'
 refine bnd (v := (h.new (.cells (List.replicate 64 (.int .u32 0)) 174 true 0)).set h.next (.cells L 174 true 0)) ?_ (bnd l1 (bnd hd rfl))
 rw [hL]; exact s1'
theorem rt_l1 (K : Nat) (D : CallF) (j) (bot) {Q : (Int × Int × Int × Int × Int × Int × Int × Int) × AHeap → Prop} {h0 : AHeap} {m : Nat → UInt32} {lp yp : Option Addr} {wb kb vb : Nat} (hwv : wb ≠ vb) (hkv : kb ≠ vb) {gw gk : ABlk}
  (egw : gw = .cells ((List.range 64).map fun i => encU (m i)) 174 true 0) (egk : gk = .cells ((List.range 64).map fun i => encU (kAt i)) 174 true 0) (s : St)
  (hj : ∀ h, Chg (fun x => x = vb) h0 h → h.get vb = some (.cells ((wl (rounds kAt m 64 s)).map encU) 147 true 0) → Gx.Wp (j lp yp (some ⟨vb, 0, none⟩) h) Q) :
  ∀ (d i : Nat) (h : AHeap), i + d = 64 → Chg (fun x => x = vb) h0 h → h.get wb = some gw → h.get kb = some gk → h.get vb = some (.cells ((wl (rounds kAt m i s)).map encU) 147 true 0) →
   Gx.Wp (iterK bot (d + 1) (ref02_take_l1b K D j) lp yp (some ⟨wb, 0, none⟩) (some ⟨kb, 0, none⟩) (some ⟨vb, 0, none⟩) (i : Int) h) Q := fun d => by
 induction d with
 | zero =>
  intro i h hi kp hw hk hv
  rw [iterK_s]; simp only [ref02_take_l1b]
  obtain rfl : i = 64 := by omega
  exact Gx.Wp.ifn (by simp) (hj h kp hv)
 | succ d ih =>
  intro i h hi kp hw hk hv
  rw [iterK_s]; simp only [ref02_take_l1b]
  refine Gx.Wp.ifp (by simp; omega) ?_
  obtain ⟨t, ht⟩ : ∃ t, t = rounds kAt m i s := ⟨_, rfl⟩
  rw [← ht] at hv
  have ldv : ∀ {jj : Nat} {x : UInt32}, (wl t)[jj]? = some x → ldI .u32 ⟨vb, jj, none⟩ h = some (x.toNat : Int) := fun {jj x} hx' => sldI_at hv (by rw [List.getElem?_map, hx']; rfl)
  have ldw : ldI .u32 ⟨wb, i, none⟩ h = some ((m i).toNat : Int) := by
   rw [egw] at hw
   exact sldI_at hw (by rw [List.getElem?_map, List.getElem?_range (by omega)]; rfl)
  have ldk : ldI .u32 ⟨kb, i, none⟩ h = some ((kAt i).toNat : Int) := by
   rw [egk] at hk
   exact sldI_at hk (by rw [List.getElem?_map, List.getElem?_range (by omega)]; rfl)
  have same : ∀ {q : Addr} {x : UInt32}, ldI .u32 q h = some (x.toNat : Int) → SameW [h, h, h] (fun H78 => (ldI .u32 q H78).bind fun y77 => some (.int .u32 y77)) (.int .u32 (x.toNat : Int)) := fun {q x} hq H hH => by
   have : H = h := by simpa using hH
   subst this
   show (ldI .u32 q H).bind _ = _
   rw [hq]; rfl
  refine Gx.Wp.bnd rfl (Gx.Wp.bnd (ldv (jj := 0) rfl) (Gx.Wp.bnd rfl (Gx.Wp.bnd (ldv (jj := 1) rfl) (Gx.Wp.bnd rfl (Gx.Wp.bnd (ldv (jj := 2) rfl) (Gx.Wp.bnd rfl (Gx.Wp.bnd (ldv (jj := 4) rfl) (Gx.Wp.bnd rfl (Gx.Wp.bnd (ldv (jj := 5) rfl) (Gx.Wp.bnd rfl (Gx.Wp.bnd (ldv (jj := 6) rfl) ?_)))))))))))
  refine Gx.Wp.bnd (turn_spec K D _ 6 (by decide) h) (Gx.Wp.bnd (turn_spec K D _ 11 (by decide) h) (Gx.Wp.bnd (turn_spec K D _ 25 (by decide) h) ?_))
  refine Gx.Wp.bnd rfl (Gx.Wp.bnd (ldv (jj := 7) rfl) (Gx.Wp.gp (same (ldv (jj := 7) rfl)) ?_))
  refine Gx.Wp.bnd rfl (Gx.Wp.bnd (sidxA (by omega)) (Gx.Wp.bnd ldk (Gx.Wp.gp (same ldk) ?_)))
  refine Gx.Wp.bnd rfl (Gx.Wp.bnd (sidxA (by omega)) (Gx.Wp.bnd ldw (Gx.Wp.gp (same ldw) ?_)))
  refine Gx.Wp.bnd (turn_spec K D _ 2 (by decide) h) (Gx.Wp.bnd (turn_spec K D _ 13 (by decide) h) (Gx.Wp.bnd (turn_spec K D _ 22 (by decide) h) ?_))
  refine Gx.Wp.bnd rfl (Gx.Wp.bnd (ldv (jj := 3) rfl) (Gx.Wp.bnd rfl ?_))
  simp only [xorU, andU, andNotU, addU]
  have hst : stL 8 ⟨vb, 0, none⟩ ((wl (rnd (kAt i) (m i) t)).map encU) h = some (h.set vb (.cells ((wl (rnd (kAt i) (m i) t)).map encU) 147 true 0)) := sstL_at hv rfl rfl rfl (by decide)
  have ech : (t.e &&& t.f) ^^^ (t.g &&& ~~~t.e) = chO t.e t.f t.g := by unfold chO; rw [UInt32.and_comm t.g]
  rw [ech]
  refine Gx.Wp.bnd hst ?_
  rw [Gx.w1 (by omega)]
  refine ih (i + 1) _ (by omega) (kp.trans (Chg.set (.inr rfl))) (by rw [AHeap.get_set, if_neg hwv]; exact hw) (by rw [AHeap.get_set, if_neg hkv]; exact hk) ?_
  rw [sset_get, ht]; rfl
theorem rt_l0 (K : Nat) (D : CallF) (j) (bot) {Q : (Int × Int × Int × Int × Int × Int × Int × Int) × AHeap → Prop} {h0 : AHeap} {yp : Option Addr} {lb vb : Nat} (hlv : lb ≠ vb) {s t : St}
  (hj : ∀ h, Chg (fun x => x = lb) h0 h → h.get lb = some (.cells ((wl (addSt s t)).map encU) 147 true 0) → Gx.Wp (j (some ⟨lb, 0, none⟩) yp h) Q) :
  ∀ (d i : Nat) (h : AHeap) (l : List UInt32), i + d = 8 → l.length = 8 → (∀ j x y, j < i → (wl s)[j]? = some x → (wl t)[j]? = some y → l[j]? = some (x + y)) → (∀ j, i ≤ j → l[j]? = (wl s)[j]?) → h.get lb = some (.cells (l.map encU) 147 true 0) → h.get vb = some (.cells ((wl t).map encU) 147 true 0) → Chg (fun x => x = lb) h0 h →
   Gx.Wp (iterK bot (d + 1) (ref02_take_l0b K D j) (some ⟨lb, 0, none⟩) yp (some ⟨vb, 0, none⟩) (i : Int) h) Q := fun d => by
 induction d with
 | zero =>
  intro i h l hi hl l1 l2 hg hv kp
  rw [iterK_s]; simp only [ref02_take_l0b]
  obtain rfl : i = 8 := by omega
  refine Gx.Wp.ifn (by simp) (hj h kp ?_)
  have e : l = wl (addSt s t) := by
   apply List.ext_getElem?
   intro j
   by_cases hj : j < 8
   ·obtain ⟨x, hx⟩ := isome (l := wl s) (i := j) hj
    obtain ⟨y, hy⟩ := isome (l := wl t) (i := j) hj
    rw [l1 j x y hj hx hy]
    match j, hj with
    | 0, _ => cases hx; cases hy; rfl
    | 1, _ => cases hx; cases hy; rfl
    | 2, _ => cases hx; cases hy; rfl
    | 3, _ => cases hx; cases hy; rfl
    | 4, _ => cases hx; cases hy; rfl
    | 5, _ => cases hx; cases hy; rfl
    | 6, _ => cases hx; cases hy; rfl
    | 7, _ => cases hx; cases hy; rfl
    | n + 8, h => omega
   ·rw [List.getElem?_eq_none (by omega), List.getElem?_eq_none (by rw [wl_length]; omega)]
  rw [← e]; exact hg
 | succ d ih =>
  intro i h l hi hl l1 l2 hg hv kp
  rw [iterK_s]; simp only [ref02_take_l0b]
  refine Gx.Wp.ifp (by simp; omega) ?_
  obtain ⟨x, hxs⟩ := isome (l := wl s) (i := i) (by rw [wl_length]; omega)
  obtain ⟨y, hyt⟩ := isome (l := wl t) (i := i) (by rw [wl_length]; omega)
  have hlx : l[i]? = some x := by rw [l2 i (Nat.le_refl _), hxs]
  have ll : ldI .u32 ⟨lb, i, none⟩ h = some (x.toNat : Int) := sldI_at hg (by rw [List.getElem?_map, hlx]; rfl)
  have lv : ldI .u32 ⟨vb, i, none⟩ h = some (y.toNat : Int) := sldI_at hv (by rw [List.getElem?_map, hyt]; rfl)
  refine Gx.Wp.bnd rfl (Gx.Wp.bnd (sidxA (by omega)) (Gx.Wp.bnd ll (Gx.Wp.bnd rfl (Gx.Wp.bnd (sidxA (by omega)) (Gx.Wp.bnd lv (Gx.Wp.bnd rfl (Gx.Wp.bnd (sidxA (by omega)) ?_)))))))
  rw [addU]
  have hst : st1 ⟨lb, i, none⟩ (.int .u32 ((x + y).toNat : Int)) h = some (h.set lb (.cells ((l.set i (x + y)).map encU) 147 true 0)) := by
   rw [st1_of hg (by rw [List.length_map]; omega) rfl, List.map_set]; rfl
  refine Gx.Wp.bnd hst ?_
  rw [Gx.w1 (by omega)]
  refine ih (i + 1) _ (l.set i (x + y)) (by omega) (by simpa using hl) (fun j x' y' hj hx' hy' => ?_) (fun j hj => ?_) (sset_get _ _ _) (by rw [AHeap.get_set, if_neg (fun e => hlv e.symm)]; exact hv) (kp.trans (Chg.set (.inr rfl)))
  ·by_cases e : j = i
   ·subst e
    rw [hxs] at hx'; rw [hyt] at hy'
    cases hx'; cases hy'
    rw [List.getElem?_set_self (by omega)]
   ·rw [List.getElem?_set_ne (fun q => e q.symm)]
    exact l1 j x' y' (by omega) hx' hy'
  ·rw [List.getElem?_set_ne (by omega)]
   exact l2 j (by omega)
def tup (s : St) : Int × Int × Int × Int × Int × Int × Int × Int := ((s.a.toNat : Int), (s.b.toNat : Int), (s.c.toNat : Int), (s.d.toNat : Int), (s.e.toNat : Int), (s.f.toNat : Int), (s.g.toNat : Int), (s.h.toNat : Int))
theorem rtake_spec {k0 : Nat} (hk : 100 ≤ k0) (D : CallF) (s : St) (b : ByteArray) (hb : b.size = 64) (h : AHeap) :
  Gx.Wp (ref02_take k0 D (tup s) b h) fun q => q.1 = tup (comp s (bl b)) ∧ Keeps h q.2 := by
 simp only [ref02_take]
 let h1 := h.new (.cells ((wl s).map encU) 147 true 0)
 let h2 := h1.new (.cells [.int .u32 0, .int .u32 0, .int .u32 0, .int .u32 0, .int .u32 0, .int .u32 0, .int .u32 0, .int .u32 0] 147 true 0)
 have n1 : h1.next = h.next + 1 := rfl
 have n2 : h2.next = h.next + 2 := rfl
 have k2 : Keeps h h2 := (Keeps.new h _).trans (Keeps.new h1 _)
 have x2 : h2.get h.next = some (.cells ((wl s).map encU) 147 true 0) := ((Keeps.new h1 _).oth _ (by omega) (fun f => f)).trans (by simp [h1])
 have y2 : h2.get h1.next = some (.cells [.int .u32 0, .int .u32 0, .int .u32 0, .int .u32 0, .int .u32 0, .int .u32 0, .int .u32 0, .int .u32 0] 147 true 0) := by simp [h2]
 obtain ⟨⟨W, h3⟩, r3, eW, k3⟩ := words_spec hk D b hb h2
 simp only at eW k3
 refine Gx.Wp.bnd r3 ?_
 let h4 := h3.new (.cells (List.replicate 64 (.int .u32 0)) 174 true 0)
 have g4 : h4.get h3.next = some (.cells (List.replicate 64 (.int .u32 0)) 174 true 0) := by simp [h4]
 have lW : W.length = 64 := by rw [eW]; simp
 have s5 := sstL_at (sp := none) g4 (by simp) lW (by rw [eW]; exact allOne_U _ _) (by decide)
 obtain ⟨h5, e5⟩ : ∃ h5, h5 = h4.set h3.next (.cells W 174 true 0) := ⟨_, rfl⟩
 refine Gx.Wp.bnd s5 ?_
 rw [← e5]
 have k5 : Keeps h3 h5 := by rw [e5]; exact Keeps.set (Keeps.new h3 _) (Nat.le_refl _)
 have w5 : h5.get h3.next = some (.cells W 174 true 0) := by rw [e5]; exact sset_get _ _ _
 have n5 : h5.next = h3.next + 1 := by rw [e5]; rfl
 obtain ⟨h6, r6, k6⟩ := const_spec k0 D h5
 refine Gx.Wp.bnd r6 ?_
 let h7 := h6.new (.cells (List.replicate 64 (.int .u32 0)) 174 true 0)
 have g7 : h7.get h6.next = some (.cells (List.replicate 64 (.int .u32 0)) 174 true 0) := by simp [h7]
 obtain ⟨KL, eKL⟩ : ∃ KL, KL = (List.range 64).map fun i => encU (kAt i) := ⟨_, rfl⟩
 simp only
 rw [← eKL]
 have lK : KL.length = 64 := by rw [eKL]; simp
 have s8 := sstL_at (sp := none) g7 (by simp) lK (by rw [eKL]; exact allOne_U _ _) (by decide)
 obtain ⟨h8, e8⟩ : ∃ h8, h8 = h7.set h6.next (.cells KL 174 true 0) := ⟨_, rfl⟩
 refine Gx.Wp.bnd s8 ?_
 rw [← e8]
 have k8 : Keeps h6 h8 := by rw [e8]; exact Keeps.set (Keeps.new h6 _) (Nat.le_refl _)
 have q8 : h8.get h6.next = some (.cells KL 174 true 0) := by rw [e8]; exact sset_get _ _ _
 have n8 : h8.next = h6.next + 1 := by rw [e8]; rfl
 have m3 := k3.nx; have m5 := k5.nx; have m6 := k6.nx
 have K28 : Keeps h2 h8 := k3.trans (k5.trans (k6.trans k8))
 have x8 : h8.get h.next = some (.cells ((wl s).map encU) 147 true 0) := (K28.oth _ (by omega) (fun f => f)).trans x2
 have y8 : h8.get h1.next = some (.cells [.int .u32 0, .int .u32 0, .int .u32 0, .int .u32 0, .int .u32 0, .int .u32 0, .int .u32 0, .int .u32 0] 147 true 0) := (K28.oth _ (by omega) (fun f => f)).trans y2
 have w8 : h8.get h3.next = some (.cells W 174 true 0) := ((k6.trans k8).oth _ (by omega) (fun f => f)).trans w5
 refine Gx.Wp.bnd (sldA_at x8 rfl) (Gx.Wp.bnd (show decC [.i .u32, .i .u32, .i .u32, .i .u32, .i .u32, .i .u32, .i .u32, .i .u32] ((wl s).map encU) = some (tup s) from rfl) ?_)
 let h11 := h8.new (.cells [.int .u32 0, .int .u32 0, .int .u32 0, .int .u32 0, .int .u32 0, .int .u32 0, .int .u32 0, .int .u32 0] 147 true 0)
 have g11 : h11.get h8.next = some (.cells [.int .u32 0, .int .u32 0, .int .u32 0, .int .u32 0, .int .u32 0, .int .u32 0, .int .u32 0, .int .u32 0] 147 true 0) := by simp [h11]
 have s12 : stL 8 ⟨h8.next, 0, none⟩ ((wl s).map encU) h11 = _ := sstL_at (sp := none) g11 rfl rfl rfl (by decide)
 obtain ⟨h12, e12⟩ : ∃ h12, h12 = h11.set h8.next (.cells ((wl s).map encU) 147 true 0) := ⟨_, rfl⟩
 refine Gx.Wp.bnd s12 ?_
 rw [← e12]
 have k12 : Keeps h8 h12 := by rw [e12]; exact Keeps.set (Keeps.new h8 _) (Nat.le_refl _)
 have v12 : h12.get h8.next = some (.cells ((wl s).map encU) 147 true 0) := by rw [e12]; exact sset_get _ _ _
 have n12 : h12.next = h8.next + 1 := by rw [e12]; rfl
 have x12 := (k12.oth h.next (by omega) (fun f => f)).trans x8
 have y12 := (k12.oth h1.next (by omega) (fun f => f)).trans y8
 have w12 := (k12.oth h3.next (by omega) (fun f => f)).trans w8
 have q12 := (k12.oth h6.next (by omega) (fun f => f)).trans q8
 have K12 : Keeps h h12 := k2.trans (K28.trans k12)
 refine Gx.Wp.jn fun j1 hj1 => ?_
 unfold ref02_take_l1
 obtain ⟨bot1, b1⟩ := iterK_of (fun _ _ _ _ _ _ _ => none) (ref02_take_l1b k0 D j1) (show 64 + 1 ≤ k0 by omega)
 rw [b1]
 refine rt_l1 k0 D j1 bot1 (h0 := h12) (m := sched (wAt (bl b))) (wb := h3.next) (kb := h6.next) (vb := h8.next) (by omega) (by omega) (congrArg (fun z => ABlk.cells z 174 true 0) eW) (congrArg (fun z => ABlk.cells z 174 true 0) eKL) s ?_ 64 0 h12 (by omega) (Chg.refl _ _) w12 q12 v12
 intro h13 c13 v13
 subst hj1
 refine Gx.Wp.jn fun j2 hj2 => ?_
 unfold ref02_take_l0
 obtain ⟨bot2, b2⟩ := iterK_of (fun _ _ _ _ _ => none) (ref02_take_l0b k0 D j2) (show 8 + 1 ≤ k0 by omega)
 rw [b2]
 have x13 := (c13.oth h.next (by omega) (fun e => by have e : h.next = h8.next := e; omega)).trans x12
 have y13 := (c13.oth h1.next (by omega) (fun e => by have e : h1.next = h8.next := e; omega)).trans y12
 have m13 := c13.nx
 refine rt_l0 k0 D j2 bot2 (h0 := h13) (lb := h.next) (vb := h8.next) (s := s) (t := rounds kAt (sched (wAt (bl b))) 64 s) (by omega) ?_ 8 0 h13 (wl s) (by omega) rfl (fun j x y hj => by omega) (fun j _ => rfl) x13 v13 (Chg.refl _ _)
 intro h14 c14 l14
 subst hj2
 have y14 := (c14.oth h1.next (by omega) (fun e => by have e : h1.next = h.next := e; omega)).trans y13
 have st : stL 8 ⟨h1.next, 0, none⟩ ((wl (addSt s (rounds kAt (sched (wAt (bl b))) 64 s))).map encU) h14 = _ := sstL_at (sp := none) y14 rfl rfl rfl (by decide)
 have l15 := sldA_at (sp := none) (sset_get h14 h1.next (.cells ((wl (addSt s (rounds kAt (sched (wAt (bl b))) 64 s))).map encU) 147 true 0)) rfl
 refine Gx.Wp.bnd rfl (Gx.Wp.bnd (sldA_at l14 rfl) (Gx.Wp.bnd (show decC [.i .u32, .i .u32, .i .u32, .i .u32, .i .u32, .i .u32, .i .u32, .i .u32] ((wl (addSt s (rounds kAt (sched (wAt (bl b))) 64 s))).map encU) = some (tup (addSt s (rounds kAt (sched (wAt (bl b))) 64 s))) from rfl) ?_))
 refine Gx.Wp.bnd rfl (Gx.Wp.bnd st (Gx.Wp.bnd rfl (Gx.Wp.bnd l15 (Gx.Wp.bnd (show decC [.i .u32, .i .u32, .i .u32, .i .u32, .i .u32, .i .u32, .i .u32, .i .u32] ((wl (addSt s (rounds kAt (sched (wAt (bl b))) 64 s))).map encU) = some (tup (addSt s (rounds kAt (sched (wAt (bl b))) 64 s))) from rfl) (Gx.Wp.of ⟨rfl, ?_⟩)))))
 have K13 : Keeps h h13 := Chg.beh K12 c13 fun x hx e => by have e : x = h8.next := e; omega
 have K14 : Keeps h h14 := Chg.beh K13 c14 fun x hx e => by have e : x = h.next := e; omega
 exact Keeps.set K14 (by omega)
theorem dg_l2 {k0 : Nat} (D : CallF) (j) (bot) {Q : ByteArray × AHeap → Prop} {n : Nat} (hn : n ≤ 140737488351300) {b : List UInt8} (hb : b.length = n) {h : AHeap}
  (hj : Gx.Wp (j (⟨⟨b ++ (128 :: List.replicate (zeroN n) 0)⟩⟩ : ByteArray) (n : Int) h) Q) :
  ∀ (d i : Nat), i + d = zeroN n → Gx.Wp (iterK bot (d + 1) (ref02_Digest_l2b k0 D j) (⟨⟨b ++ (128 :: List.replicate i 0)⟩⟩ : ByteArray) (n : Int) h) Q := fun d => by
 have hz : zeroN n < 64 := Nat.mod_lt _ (by decide)
 induction d with
 | zero =>
  intro i hi
  rw [iterK_s]; simp only [ref02_Digest_l2b]
  obtain rfl : i = zeroN n := by omega
  have sz : (⟨⟨b ++ (128 :: List.replicate (zeroN n) 0)⟩⟩ : ByteArray).size = n + 1 + zeroN n := by rw [size_mk, List.length_append, List.length_cons, List.length_replicate, hb]; omega
  have e : Int.tmod ((⟨⟨b ++ (128 :: List.replicate (zeroN n) 0)⟩⟩ : ByteArray).size : Int) 64 = 56 := by
   rw [sz, Int.tmod_eq_emod_of_nonneg (by omega)]
   unfold zeroN; omega
  rw [e]
  exact Gx.Wp.ifn (by decide) hj
 | succ d ih =>
  intro i hi
  rw [iterK_s]; simp only [ref02_Digest_l2b]
  have sz : (⟨⟨b ++ (128 :: List.replicate i 0)⟩⟩ : ByteArray).size = n + 1 + i := by rw [size_mk, List.length_append, List.length_cons, List.length_replicate, hb]; omega
  have e : Int.tmod ((⟨⟨b ++ (128 :: List.replicate i 0)⟩⟩ : ByteArray).size : Int) 64 ≠ 56 := by
   rw [sz, Int.tmod_eq_emod_of_nonneg (by omega)]
   unfold zeroN at hi; omega
  refine Gx.Wp.ifp (by simpa using e) (Gx.Wp.ifp (by rw [sz]; show n + 1 + i + 1 ≤ _; omega) ?_)
  have ea : (⟨⟨b ++ (128 :: List.replicate i 0)⟩⟩ : ByteArray) ++ (⟨#[0]⟩ : ByteArray) = ⟨⟨b ++ (128 :: List.replicate (i + 1) 0)⟩⟩ := by
   have := ba_app (b ++ (128 :: List.replicate i 0)) [0]
   rw [List.append_assoc, List.cons_append, ← List.replicate_succ'] at this
   exact this
  rw [ea]
  exact ih (i + 1) (by omega)
theorem dg_l1 {k0 : Nat} (hk : 100 ≤ k0) (D : CallF) (j) (bot) {Q : ByteArray × AHeap → Prop} {lb : Nat} {s : ByteArray} (hs : s.size ≤ 140737488355000) (hm : s.size % 64 = 0) {s0 : St} {h0 : AHeap}
  (hj : ∀ h, Chg (fun x => x = lb) h0 h → h.get lb = some (.cells ((wl (absorb s0 (bl s))).map encU) 147 true 0) → Gx.Wp (j (some ⟨lb, 0, none⟩) h) Q) (hlb : lb < h0.next) :
  ∀ (d i : Nat) (t : St) (h : AHeap), i + 64 * d = s.size → absorb t ((bl s).drop i) = absorb s0 (bl s) → Chg (fun x => x = lb) h0 h → h.get lb = some (.cells ((wl t).map encU) 147 true 0) →
   Gx.Wp (iterK bot (d + 1) (ref02_Digest_l1b k0 D j) s (some ⟨lb, 0, none⟩) (i : Int) h) Q := fun d => by
 induction d with
 | zero =>
  intro i t h hi ha c hg
  rw [iterK_s]; simp only [ref02_Digest_l1b]
  have e : absorb t ((bl s).drop i) = t := absorb_lt (by rw [List.length_drop, bl_length]; omega)
  rw [e] at ha
  subst ha
  exact Gx.Wp.ifn (by simp; omega) (hj h c hg)
 | succ d ih =>
  intro i t h hi ha c hg
  rw [iterK_s]; simp only [ref02_Digest_l1b]
  refine Gx.Wp.ifp (by simp; omega) ?_
  have e64 : IntKind.wrap .i64 ((i : Int) + 64) = ((i + 64 : Nat) : Int) := sw64 (by omega) (by omega)
  have hsub := subS_of (s := s) (lo := some (i : Int)) (hi := some ((i + 64 : Nat) : Int)) (i := i) (j := i + 64) rfl rfl (by omega) (by omega)
  rw [e64]
  refine Gx.Wp.bnd rfl (Gx.Wp.bnd (sldA_at hg rfl) (Gx.Wp.bnd (show decC [.i .u32, .i .u32, .i .u32, .i .u32, .i .u32, .i .u32, .i .u32, .i .u32] ((wl t).map encU) = some (tup t) from rfl) (Gx.Wp.bnd hsub ?_)))
  have szb : (⟨⟨((bl s).take (i + 64)).drop i⟩⟩ : ByteArray).size = 64 := by rw [size_mk, List.length_drop, List.length_take, bl_length]; omega
  refine Gx.Wp.call (rtake_spec hk D t _ szb h) fun q ⟨q1, q2⟩ => ?_
  obtain ⟨v, h1⟩ := q
  simp only at q1 q2 ⊢
  subst q1
  have hg1 := (q2.oth lb (Nat.lt_of_lt_of_le hlb c.nx) (fun f => f)).trans hg
  obtain ⟨u, hu⟩ : ∃ u, u = comp t (bl (⟨⟨((bl s).take (i + 64)).drop i⟩⟩ : ByteArray)) := ⟨_, rfl⟩
  rw [← hu]
  have st : stL 8 ⟨lb, 0, none⟩ ((wl u).map encU) h1 = _ := sstL_at (sp := none) hg1 rfl rfl rfl (by decide)
  refine Gx.Wp.bnd rfl (Gx.Wp.bnd st ?_)
  refine ih (i + 64) u _ (by omega) ?_ (c.trans ((q2.keeps).trans (Chg.set (.inr rfl)))) (sset_get _ _ _)
  rw [← ha, absorb_ge (l := (bl s).drop i) (by rw [List.length_drop, bl_length]; omega), List.drop_drop, hu, bl_mk]
  congr 2
  rw [List.drop_take, show i + 64 - i = 64 by omega]
theorem dg_l0 {k0 : Nat} (hk : 9 ≤ k0) (D : CallF) (j) (bot) {Q : ByteArray × AHeap → Prop} {lb : Nat} {s : St} {h0 : AHeap} (hlb : lb < h0.next)
  (hg0 : h0.get lb = some (.cells ((wl s).map encU) 147 true 0)) (hj : ∀ h, Keeps h0 h → Gx.Wp (j (⟨⟨outSt s⟩⟩ : ByteArray) h) Q) :
  ∀ (d i : Nat) (h : AHeap), i + d = 8 → Keeps h0 h → Gx.Wp (iterK bot (d + 1) (ref02_Digest_l0b k0 D j) (some ⟨lb, 0, none⟩) (⟨⟨(((wl s).take i).map out32).flatten⟩⟩ : ByteArray) (i : Int) h) Q := fun d => by
 have hflat : ∀ l : List UInt32, (l.map out32).flatten.length = 4 * l.length := fun l => by
  induction l with
  | nil => rfl
  | cons y l ih => rw [List.map_cons, List.flatten_cons, List.length_append, ih]; simp [out32]; omega
 induction d with
 | zero =>
  intro i h hi kp
  rw [iterK_s]; simp only [ref02_Digest_l0b]
  obtain rfl : i = 8 := by omega
  refine Gx.Wp.ifn (by simp) ?_
  have := hj h kp
  rw [out_flat] at this
  exact this
 | succ d ih =>
  intro i h hi kp
  rw [iterK_s]; simp only [ref02_Digest_l0b]
  refine Gx.Wp.ifp (by simp; omega) ?_
  obtain ⟨x, hx⟩ := isome (l := wl s) (i := i) (by rw [wl_length]; omega)
  have hg := (kp.oth lb hlb (fun f => f)).trans hg0
  have ll : ldI .u32 ⟨lb, i, none⟩ h = some (x.toNat : Int) := sldI_at hg (by rw [List.getElem?_map, hx]; rfl)
  have hx2 := u32_lt x
  obtain ⟨h1, r1, k1⟩ := must_spec (kf := k0) hk D x.toNat 4 h (by decide) (by decide) (by omega) (by omega)
  have ew : IntKind.wrap .i64 (x.toNat : Int) = (x.toNat : Int) := w64 _ (by omega)
  rw [fix_out] at r1
  refine Gx.Wp.bnd rfl (Gx.Wp.bnd (sidxA (by omega)) (Gx.Wp.bnd ll ?_))
  rw [ew]
  refine Gx.Wp.bnd r1 ?_
  have s1 : (⟨⟨(((wl s).take i).map out32).flatten⟩⟩ : ByteArray).size ≤ 32 := by rw [size_mk, hflat, List.length_take, wl_length]; omega
  refine Gx.Wp.ifp (by
   have : (⟨⟨out32 x⟩⟩ : ByteArray).size = 4 := rfl
   simp only [this]
   omega) ?_
  rw [Gx.w1 (by omega), ba_app]
  have := ih (i + 1) h1 (by omega) (kp.trans k1)
  rw [List.take_add_one, hx] at this
  simpa using this
theorem digest_spec {k0 : Nat} (hk : 200 ≤ k0) (D : CallF) (s : ByteArray) (hs : s.size ≤ 140737488351300) (hks : s.size < 32 * k0) (h : AHeap) : Gx.Wp (ref02_Digest k0 D s h) fun q => q.1 = digB s ∧ Keeps h q.2 := by
 simp only [ref02_Digest]
 refine Gx.Wp.ifp (by show s.size + 1 ≤ _; omega) ?_
 refine Gx.Wp.jn fun j2 hj2 => ?_
 unfold ref02_Digest_l2
 have hz : zeroN s.size < 64 := Nat.mod_lt _ (by decide)
 obtain ⟨bot2, b2⟩ := iterK_of (fun _ _ _ => none) (ref02_Digest_l2b k0 D j2) (show zeroN s.size + 1 ≤ k0 by omega)
 rw [b2]
 have e0 : s ++ (⟨#[128]⟩ : ByteArray) = ⟨⟨bl s ++ (128 :: List.replicate 0 0)⟩⟩ := ba_app (bl s) [128]
 rw [e0]
 refine dg_l2 (k0 := k0) D j2 bot2 hs (bl_length s) ?_ (zeroN s.size) 0 (by omega)
 subst hj2
 dsimp only
 have e8 : IntKind.wrap .i64 ((s.size : Int) * 8) = ((s.size * 8 : Nat) : Int) := sw64 (by omega) (by omega)
 rw [e8]
 obtain ⟨h5, r5, k5⟩ := must8_spec (kf := k0) (by omega) D (s.size * 8) h (by omega)
 refine Gx.Wp.bnd r5 ?_
 have sz1 : (⟨⟨bl s ++ (128 :: List.replicate (zeroN s.size) 0)⟩⟩ : ByteArray).size = s.size + 1 + zeroN s.size := by rw [size_mk, List.length_append, List.length_cons, List.length_replicate, bl_length]; omega
 refine Gx.Wp.ifp (by
  have : (⟨⟨be64 (s.size * 8)⟩⟩ : ByteArray).size = 8 := rfl
  simp only [this, sz1]
  omega) ?_
 obtain ⟨w, hw⟩ : ∃ w : ByteArray, w = (⟨⟨bl s ++ (128 :: List.replicate (zeroN s.size) 0)⟩⟩ : ByteArray) ++ (⟨⟨be64 (s.size * 8)⟩⟩ : ByteArray) := ⟨_, rfl⟩
 have blw : bl w = bl s ++ padT s.size := by
  rw [hw, ba_app, bl_mk, List.append_assoc]; rfl
 have szw : w.size = s.size + 1 + zeroN s.size + 8 := by
  rw [← bl_length, blw, List.length_append, bl_length]
  simp only [padT, List.length_append, List.length_cons, List.length_replicate, be64_length]
  omega
 have hm : w.size % 64 = 0 := by rw [szw]; unfold zeroN; omega
 let h6 := h5.new (.cells [.int .u32 0, .int .u32 0, .int .u32 0, .int .u32 0, .int .u32 0, .int .u32 0, .int .u32 0, .int .u32 0] 147 true 0)
 have g6 : h6.get h5.next = some (.cells [.int .u32 0, .int .u32 0, .int .u32 0, .int .u32 0, .int .u32 0, .int .u32 0, .int .u32 0, .int .u32 0] 147 true 0) := by simp [h6]
 have s7 : stL 8 ⟨h5.next, 0, none⟩ ((wl st0).map encU) h6 = _ := sstL_at (sp := none) g6 rfl rfl rfl (by decide)
 refine Gx.Wp.bnd s7 ?_
 obtain ⟨h7, e7⟩ : ∃ h7, h7 = h6.set h5.next (.cells ((wl st0).map encU) 147 true 0) := ⟨_, rfl⟩
 rw [← e7]
 have k7 : Keeps h5 h7 := by rw [e7]; exact Keeps.set (Keeps.new h5 _) (Nat.le_refl _)
 have g7 : h7.get h5.next = some (.cells ((wl st0).map encU) 147 true 0) := by rw [e7]; exact sset_get _ _ _
 have n7 : h7.next = h5.next + 1 := by rw [e7]; rfl
 refine Gx.Wp.jn fun j1 hj1 => ?_
 simp only
 rw [← hw]
 unfold ref02_Digest_l1
 obtain ⟨d, hd⟩ : ∃ d, 64 * d = w.size := ⟨w.size / 64, by omega⟩
 obtain ⟨bot1, b1⟩ := iterK_of (fun _ _ _ _ => none) (ref02_Digest_l1b k0 D j1) (show d + 1 ≤ k0 by omega)
 rw [b1]
 refine dg_l1 (by omega) D j1 bot1 (by omega) hm (s0 := st0) (h0 := h7) ?_ (by omega) d 0 st0 h7 (by omega) rfl (Chg.refl _ _) g7
 intro h8 c8 g8
 subst hj1
 refine Gx.Wp.jn fun j0 hj0 => ?_
 unfold ref02_Digest_l0
 obtain ⟨bot0, b0⟩ := iterK_of (fun _ _ _ _ => none) (ref02_Digest_l0b k0 D j0) (show 8 + 1 ≤ k0 by omega)
 rw [b0]
 have k8 : Keeps h h8 := Chg.beh (k5.trans k7) c8 fun x hx e => by have e : x = h5.next := e; have := k5.nx; omega
 refine dg_l0 (by omega) D j0 bot0 (h0 := h8) (Nat.lt_of_lt_of_le (by omega) c8.nx) g8 ?_ 8 0 h8 (by omega) (Chg.refl _ _)
 intro h9 k9
 subst hj0
 refine Gx.Wp.of ⟨?_, k8.trans k9⟩
 show (⟨⟨outSt (absorb st0 (bl w))⟩⟩ : ByteArray) = digB s
 unfold digB digest
 rw [blw, bl_length]
end Ge.B
namespace Ge
open Go Gx
theorem bknown_spec (k : Nat) (D : CallF) (n : Int) (h : AHeap) : blob_known k D n h = some (decide (n = 1 ∨ n = 2), h) := by
 simp only [blob_known]
 by_cases c : n = 1
 ·rw [if_pos (by simpa using c)]; simp [c]
 ·rw [if_neg (by simpa using c)]
  congr 2
  by_cases d : n = 2
  ·simp [d]
  ·rw [decide_eq_false (fun q => q.elim c d)]; simpa using d
section
variable {k : Nat} {h : AHeap} {s : ByteArray}
end
end Ge
namespace Ge
open Go Gx
def idB (c : Nat) (t : List UInt8) : ByteArray := ⟨⟨digest (UInt8.ofNat c :: t)⟩⟩
def isK (n : Int) : Bool := decide (n = 1 ∨ n = 2)
noncomputable def idV (n : Int) (t : List UInt8) : ByteArray × Int := if isK n = true then (idB n.toNat t, 0) else (⟨#[]⟩, 1)
theorem wrapK {n : Int} (h : isK n = true) : Value.int .u8 (IntKind.wrap .u8 n) = encB (UInt8.ofNat n.toNat) := by
 unfold isK at h
 simp only [decide_eq_true_eq] at h
 rcases h with h | h <;> subst h <;> rfl
section
variable {k : Nat} {h : AHeap} {t : ByteArray} {n : Int}
theorem one_byte {h h2 : AHeap} {b : UInt8} (g : h2.get h.next = some (.cells [encB b] 5 true 0)) : bytesOf h2 ⟨some ⟨h.next, 0, some 0⟩, 1, 1⟩ = some ⟨⟨[b]⟩⟩ :=
 bytesOf_out (l := [b]) g
theorem cat_two (a b : ByteArray) : B.catL [a, b] = bl a ++ bl b := by simp [B.catL]
theorem two_row {h : AHeap} {b : Nat} {x y : ByteArray} (g : h.get b = some (.cells [.string x, .string y] 9 true 0)) (hl : b < h.next) : Row encS h ⟨some ⟨b, 0, some 0⟩, 2, 2⟩ [x, y] :=
 Row.of_block (enc := encS) (xs := [x, y]) g hl fun i z hz => by
  match i with
  | 0 => simp at hz; subst hz; rfl
  | 1 => simp at hz; subst hz; rfl
  | i + 2 => simp at hz
theorem idV_no {n : Int} {t : List UInt8} (h : isK n = false) : idV n t = (⟨#[]⟩, 1) := by unfold idV; rw [h]; rfl
theorem idV_yes {n : Int} {t : List UInt8} (h : isK n = true) : idV n t = (idB n.toNat t, 0) := by unfold idV; rw [if_pos h]
theorem bid_spec (D : CallF) (kg : KG 0 h) (ht : t.size ≤ 140737488351232) (hk : 200 ≤ k) (hk2 : t.size + 100 < 32 * k) :
  Gx.Wp (blob_Id k D n t h) fun z => z.1 = idV n (bl t) ∧ Keeps h z.2 := by
 simp only [blob_Id]
 refine .bnd (bknown_spec k D n h) ?_
 have hd : decide (n = 1 ∨ n = 2) = isK n := rfl
 rw [hd]
 cases hn : isK n with
 | false =>
  exact .ifp rfl (.of ⟨(idV_no hn).symm, Chg.refl _ _⟩)
 | true =>
  refine .ifn (by simp) (Wp.newE fun h2 e2 k2 n2 g2 => ?_)
  rw [wrapK hn] at g2
  refine .bnd (one_byte g2) (Wp.newE fun h4 e4 k4 n4 g4 => ?_)
  have kg4 : KG 0 h4 := (kg.chg k2 fun f => f).chg k4 fun f => f
  refine .call (B.sum_spec hk D kg4 (two_row g4 (by omega)) (by rw [cat_two, bl_mk, List.length_append, bl_length]; simp; omega) (by rw [cat_two, bl_mk, List.length_append, bl_length]; simp; omega) (by simp; omega) (by simp)) fun r5 ⟨q5, k5⟩ => .of ⟨?_, (k2.trans k4).trans k5⟩
  rw [q5, cat_two, bl_mk, idV_yes hn]; rfl
theorem rsum_spec (D : CallF) (hn : isK n = true) (ht : t.size ≤ 140737488351232) (hk : 200 ≤ k) (hk2 : t.size + 100 < 32 * k) :
  Gx.Wp (ref13_Sum k D n t h) fun z => z.1 = idB n.toNat (bl t) ∧ Keeps h z.2 := by
 simp only [ref13_Sum]
 refine Wp.newE fun h1 e1 k1 n1 g1 => ?_
 rw [wrapK hn] at g1
 have sz : ((⟨⟨[UInt8.ofNat n.toNat]⟩⟩ : ByteArray) ++ t).size = 1 + t.size := by rw [ByteArray.size_append]; rfl
 refine .bnd (one_byte g1) (.ifp (by show 1 + t.size ≤ _; omega) (.call (B.digest_spec hk D _ (by omega) (by omega) h1) fun r3 ⟨q3, k3⟩ => .of ⟨?_, k1.trans k3⟩))
 rw [q3]
 unfold digB idB
 rw [show bl ((⟨⟨[UInt8.ofNat n.toNat]⟩⟩ : ByteArray) ++ t) = [UInt8.ofNat n.toNat] ++ bl t by simp [bl]]
 rfl
theorem rid_spec (D : CallF) (ht : t.size ≤ 140737488351232) (hk : 200 ≤ k) (hk2 : t.size + 100 < 32 * k) :
  Gx.Wp (ref13_Id k D n t h) fun z => z.1 = idV n (bl t) ∧ Keeps h z.2 := by
 simp only [ref13_Id]
 refine .bnd (known_spec k D n h) ?_
 have hd : decide (n = 1 ∨ n = 2) = isK n := rfl
 rw [hd]
 cases hn : isK n with
 | false => exact .ifp rfl (.of ⟨(idV_no hn).symm, Chg.refl _ _⟩)
 | true => exact .ifn (by simp) (.call (rsum_spec D hn ht hk hk2) fun r2 ⟨q2, k2⟩ => .of ⟨by rw [q2, idV_yes hn], k2⟩)
def encP (c : Nat) (t : List UInt8) : List UInt8 := if (packA t).length < t.length then UInt8.ofNat (c + 16) :: (leb t.length ++ packA t) else UInt8.ofNat c :: (leb t.length ++ t)
noncomputable def encV (n : Int) (t : ByteArray) : ByteArray × Int := if isK n = true then (if 65536 < t.size then (⟨#[]⟩, 2) else (⟨⟨encP n.toNat (bl t)⟩⟩, 0)) else (⟨#[]⟩, 1)
theorem wrapK16 {n : Int} (h : isK n = true) : Value.int .u8 (IntKind.wrap .u8 (Go.bits .or .i64 n 16)) = encB (UInt8.ofNat (n.toNat + 16)) := by
 unfold isK at h
 simp only [decide_eq_true_eq] at h
 rcases h with h | h <;> subst h <;> rfl
theorem ba3 (a b c : List UInt8) : ((⟨⟨a⟩⟩ : ByteArray) ++ (⟨⟨b⟩⟩ : ByteArray)) ++ (⟨⟨c⟩⟩ : ByteArray) = ⟨⟨a ++ (b ++ c)⟩⟩ := by
 apply bl_inj
 simp [bl]
theorem packL_len (s : List UInt8) : ∀ (f i kept : Nat) (es : List Fr) (out : List UInt8), kept ≤ i → i ≤ s.length → out.length ≤ 2 * kept → (packL s f i kept es out).length ≤ 2 * s.length + 2
 | 0, i, kept, es, out, h1, h2, h3 => by simp [packL]; omega
 | f + 1, i, kept, es, out, h1, h2, h3 => by
  unfold packL
  split
  ·split
   ·rename_i c4
    have sq := seqB_len (l := (s.take i).drop kept) (d := (bestF s i es).1) c4
    have sl2 : ((s.take i).drop kept).length = i - kept := by simp; omega
    refine packL_len s f _ _ _ _ (Nat.le_refl _) (by omega) ?_
    rw [List.length_append]; omega
   ·exact packL_len s f _ _ _ _ (by omega) (by omega) h3
  ·have h1 := numB_len (s.drop kept).length
   unfold seqB
   rw [if_neg (by omega)]
   simp only [List.length_append, List.length_cons, List.length_nil, List.length_drop] at h1 ⊢
   omega
theorem packA_len (l : List UInt8) : (packA l).length ≤ 2 * l.length + 2 := packL_len l _ 0 0 [] [] (Nat.le_refl _) (by omega) (by simp)
theorem encV_no {n : Int} (h : isK n = false) : encV n t = (⟨#[]⟩, 1) := by unfold encV; rw [h]; rfl
theorem encV_long {n : Int} (h : isK n = true) (c : 65536 < t.size) : encV n t = (⟨#[]⟩, 2) := by unfold encV; rw [if_pos h, if_pos c]
theorem encV_yes {n : Int} (h : isK n = true) (c : ¬ 65536 < t.size) : encV n t = (⟨⟨encP n.toNat (bl t)⟩⟩, 0) := by unfold encV; rw [if_pos h, if_neg c]
theorem encode_spec (D : CallF) (hk : 1200000 ≤ k) :
  Gx.Wp (blob_Encode k D n t h) fun z => z.1 = encV n t ∧ Keeps h z.2 := by
 simp only [blob_Encode]
 refine .bnd (bknown_spec k D n h) ?_
 have hd : decide (n = 1 ∨ n = 2) = isK n := rfl
 rw [hd]
 cases hn : isK n with
 | false => exact .ifp rfl (.of ⟨(encV_no hn).symm, Chg.refl _ _⟩)
 | true =>
  refine .ifn (by simp) ?_
  by_cases c : 65536 < t.size
  ·exact .ifp (by simp; omega) (.of ⟨(encV_long hn c).symm, Chg.refl _ _⟩)
  rw [encV_yes hn c]
  refine .ifn (by simp; omega) (.call (short_spec D (by omega) t.size (by omega) h) fun r2 ⟨q2, k2⟩ => .call (pack_spec D (by omega) (by omega)) fun r3 ⟨q3, k3⟩ => Wp.jn fun j10 h10 => ?_)
  have kz := k2.trans k3
  have bt : (bl t).length = t.size := bl_length t
  have ll : (leb t.size).length ≤ 3 := leb_len 2 t.size (by omega)
  have pl := packA_len (bl t)
  have J : ∀ y, y = decide ((packA (bl t)).length < (bl t).length) → Gx.Wp (j10 n t (bA (leb t.size)) ⟨⟨packA (bl t)⟩⟩ y r3.2) fun z => z.1 = ((⟨⟨encP n.toNat (bl t)⟩⟩ : ByteArray), (0 : Int)) ∧ Keeps h z.2 := fun y hy => by
   rw [h10]
   by_cases cc : (packA (bl t)).length < (bl t).length
   ·have ee : encP n.toNat (bl t) = UInt8.ofNat (n.toNat + 16) :: (leb t.size ++ packA (bl t)) := by unfold encP; rw [if_pos cc, bt]
    rw [ee]
    refine .ifp (by rw [hy]; simpa using cc) (Wp.newE fun h11 e11 k11 n11 g11 => ?_)
    rw [wrapK16 hn] at g11
    refine .bnd (one_byte g11) (.ifp ?_ (.ifp ?_ (.of ⟨?_, kz.trans k11⟩)))
    ·show 1 + (leb t.size).length ≤ _; omega
    ·rw [ByteArray.size_append]
     show 1 + (leb t.size).length + (packA (bl t)).length ≤ _
     omega
    ·show (((⟨⟨_⟩⟩ : ByteArray) ++ bA (leb t.size)) ++ (⟨⟨_⟩⟩ : ByteArray), (0 : Int)) = _
     rw [bA, ba3]; rfl
   ·have ee : encP n.toNat (bl t) = UInt8.ofNat n.toNat :: (leb t.size ++ bl t) := by unfold encP; rw [if_neg cc, bt]
    rw [ee]
    refine .ifn (by rw [hy]; simpa using cc) (Wp.newE fun h11 e11 k11 n11 g11 => ?_)
    rw [wrapK hn] at g11
    refine .bnd (one_byte g11) (.ifp ?_ (.ifp ?_ (.of ⟨?_, kz.trans k11⟩)))
    ·show 1 + (leb t.size).length ≤ _; omega
    ·rw [ByteArray.size_append]
     show 1 + (leb t.size).length + t.size ≤ _
     omega
    ·have := ba3 [UInt8.ofNat n.toNat] (leb t.size) (bl t)
     show (((⟨⟨_⟩⟩ : ByteArray) ++ bA (leb t.size)) ++ t, (0 : Int)) = _
     rw [bA]
     exact congrArg (·, (0 : Int)) this
  rw [q2, q3]
  exact .ifp rfl (J _ (by rw [bt, size_mk]; simp))
end
end Ge
namespace Ge
open Go Gx
section
variable {k : Nat} {h : AHeap} {s : ByteArray}
theorem works13 (D : CallF) (hk : 1200000 ≤ k) : Gx.Wp (law13_works k D h) fun z => z.1 = true ∧ Keeps h z.2 := by
 simp only [law13_works]
 refine .call (encode_spec D hk) fun r1 ⟨q1, k1⟩ => ?_
 have e : encV 1 (⟨#[97, 98]⟩ : ByteArray) = (⟨#[1, 2, 97, 98]⟩, 0) := by
  rw [encV_yes rfl (by decide)]
  have : encP 1 [97, 98] = [1, 2, 97, 98] := by decide +kernel
  show ((⟨⟨encP 1 [97, 98]⟩⟩ : ByteArray), (0 : Int)) = _
  rw [this]
 rw [q1, e]
 exact .ifp rfl (.of ⟨by rw [ba_beq]; simp, k1⟩)
end
end Ge
namespace Ge
open Go Gx
section
variable {k : Nat} {h : AHeap} {s : ByteArray}
theorem plain_spec {t : ByteArray} {n : Int} {b : UInt8} (D : CallF) (hk : 20 ≤ k) (hb : Value.int .u8 (IntKind.wrap .u8 n) = encB b) (ht : t.size ≤ 80000000) :
  Gx.Wp (ref13_Plain k D n t h) fun z => z.1 = ⟨⟨b :: (leb t.size ++ bl t)⟩⟩ ∧ Keeps h z.2 := by
 simp only [ref13_Plain, ref01_Text]
 obtain ⟨h1, e1⟩ : ∃ h1, h1 = AHeap.resv h 1 := ⟨_, rfl⟩
 have k1 : Keeps h h1 := ⟨by rw [e1]; show h.next ≤ h.next + 1; omega, fun b hb _ => by rw [e1]; rfl⟩
 rw [← e1]
 have ll : (leb t.size).length ≤ 4 := leb_len 3 t.size (by omega)
 refine .call (P := fun z => z.1 = ⟨⟨leb t.size ++ bl t⟩⟩ ∧ Keeps h1 z.2) (.call (small_spec D hk t.size (by omega) h1) fun r1 ⟨q1, k2⟩ => .ifp (by rw [q1]; show (leb t.size).length + t.size ≤ _; omega) (.of ⟨by rw [q1]; exact B.ba_app (leb t.size) (bl t), k2⟩)) fun r2 ⟨q2, k2⟩ => ?_
 rw [q2, hb]
 have g3 : (AHeap.set r2.2 (h.next + 0) (.cells [encB b] 5 true 0)).get (h.next + 0) = some (.cells [encB b] 5 true 0) := by simp
 have ob : bytesOf (AHeap.set r2.2 (h.next + 0) (.cells [encB b] 5 true 0)) ⟨some ⟨h.next + 0, 0, some 0⟩, 1, 1⟩ = some ⟨⟨[b]⟩⟩ := bytesOf_out (l := [b]) g3
 refine .bnd ob (.gp ⟨_, g3, fun H hH => ?_⟩ (.ifp ?_ (.of ⟨?_, Keeps.set (k1.trans k2) (by omega)⟩)))
 ·have := bytesOf_out (l := [b]) (cap := 1) (sp := some 0) hH
  exact bnd (show bytesOf H ⟨some ⟨h.next + 0, 0, some 0⟩, 1, 1⟩ = some ⟨⟨[b]⟩⟩ from this) rfl
 ·show 1 + (leb t.size ++ bl t).length ≤ _
  rw [List.length_append, bl_length]; omega
 ·exact B.ba_app [b] (leb t.size ++ bl t)
theorem refused_spec13 {t : ByteArray} {n : Int} (D : CallF) : ref13_Refused k D n t h = some ((encV n t).2, h) := by
 simp only [ref13_Refused]
 refine bnd (known_spec k D n h) ?_
 have hd : decide (n = 1 ∨ n = 2) = isK n := rfl
 rw [hd]
 cases hn : isK n with
 | false => rw [encV_no hn]; exact ifp rfl rfl
 | true =>
  refine ifn (by simp) ?_
  by_cases c : 65536 < t.size
  ·rw [encV_long hn c]; exact ifp (by simp; omega) rfl
  ·rw [encV_yes hn c]; exact ifn (by simp; omega) rfl
theorem writes_true13 {t : ByteArray} {n : Int} (D : CallF) (kg : KG 0 h) (hk : 3000000 + t.size ≤ k) (ht : t.size ≤ 140737488351232) : Gx.Wp (law13_BlobWrites k D n t h) fun z => z.1 = true := by
 simp only [law13_BlobWrites]
 refine Wp.jn fun j5 h5 => ?_
 have J : ∀ y, Gx.Wp (j5 n t y h) fun z => z.1 = true := fun y => by
  rw [h5]
  cases y with
  | true => exact .ifp rfl (.call (works13 D (by omega)) fun r ⟨q, _⟩ => .of q)
  | false =>
   refine .ifn (by decide) (.call (bid_spec D kg (by omega) (by omega) (by omega)) fun r7 ⟨q7, k7⟩ => .call (rid_spec D (by omega) (by omega) (by omega)) fun r8 ⟨q8, k8⟩ => .call (encode_spec D (by omega)) fun r9 ⟨q9, k9⟩ => Wp.jn fun j16 h16 => ?_)
   rw [q7, q8, q9]
   refine .ifn (by rw [ba_beq]; simp) (.ifn (by simp) (.bnd (refused_spec13 D) (.ifn (by simp) (.call (works13 D (by omega)) fun r27 ⟨q27, k27⟩ => ?_))))
   rw [h16, q27]
   refine .ifn (by decide) ?_
   cases hn : isK n with
   | false =>
    rw [encV_no hn]
    exact .ifp rfl (.of (by rw [ba_beq]; simp))
   | true =>
    by_cases c : 65536 < t.size
    ·rw [encV_long hn c]
     exact .ifp rfl (.of (by rw [ba_beq]; simp))
    rw [encV_yes hn c]
    refine .ifn (by simp) (.call (pack_spec D (by omega) (by omega)) fun r17 ⟨q17, k17⟩ => .call (plain_spec D (by omega) (wrapK hn) (by omega)) fun r18 ⟨q18, k18⟩ => Wp.jn fun j22 h22 => ?_)
    have bt : (bl t).length = t.size := bl_length t
    have pl := packA_len (bl t)
    rw [q17, q18]
    by_cases cc : (packA (bl t)).length < (bl t).length
    ·have ee : encP n.toNat (bl t) = UInt8.ofNat (n.toNat + 16) :: (leb t.size ++ packA (bl t)) := by unfold encP; rw [if_pos cc, bt]
     have ew : Value.int .u8 (IntKind.wrap .u8 (IntKind.wrap .i64 (n + 16))) = encB (UInt8.ofNat (n.toNat + 16)) := by
      have hn' := hn
      unfold isK at hn'
      simp only [decide_eq_true_eq] at hn'
      rcases hn' with h | h <;> subst h <;> rfl
     refine .ifp (by simp only [size_mk]; simp; omega) (.call (plain_spec D (by omega) ew (by omega)) fun r23 ⟨q23, k23⟩ => ?_)
     rw [q23, ee]
     have lz : (⟨⟨UInt8.ofNat (n.toNat + 16) :: (leb t.size ++ bl t)⟩⟩ : ByteArray).size = 1 + (leb t.size).length + t.size := by
      rw [size_mk, List.length_cons, List.length_append, bt]; omega
     have ll : (leb t.size).length ≤ 4 := leb_len 3 t.size (by omega)
     dsimp only
     rw [lz, show IntKind.wrap .i64 (((1 + (leb t.size).length + t.size : Nat) : Int) - (t.size : Int)) = ((1 + (leb t.size).length : Nat) : Int) by rw [Gx.w64 _ (by omega)]; omega]
     refine .bnd (subS_of (i := 0) (j := 1 + (leb t.size).length) rfl rfl (by omega) (by omega)) ?_
     rw [List.drop_zero, bl_mk, Nat.add_comm 1, List.take_succ_cons, List.take_left]
     refine .ifp ?_ ?_
     ·simp only [size_mk, List.length_cons]; omega
     ·rw [h22]
      refine .of ?_
      rw [B.ba_app, ba_beq, decide_eq_true_eq]
      rfl
    ·have ee : encP n.toNat (bl t) = UInt8.ofNat n.toNat :: (leb t.size ++ bl t) := by unfold encP; rw [if_neg cc, bt]
     refine .ifn (by simp only [size_mk]; simp; omega) ?_
     rw [h22, ee]
     exact .of (by rw [ba_beq]; simp)
 by_cases c : (t.size : Int) > 3000
 ·exact .ifp (by simpa using c) (J _)
 ·exact .ifn (by simpa using c) (J _)
end
end Ge
namespace Ge
open Go Gx
theorem tru {x : Option (Bool × AHeap)} (w : Gx.Wp x fun z => z.1 = true) : ∃ h', x = some (true, h') := by
 obtain ⟨⟨b, h'⟩, e, q⟩ := w
 exact ⟨h', by rw [e, show b = true from q]⟩
theorem writes_T {k : Nat} {t : ByteArray} (hk : 3000000 + t.size ≤ k) (D : CallF) {h : AHeap} (kg : KG 0 h) (n : Int) (ht : t.size ≤ 140737488351232) : ∃ h', law13_BlobWrites k D n t h = some (true, h') := tru (writes_true13 D kg hk ht)
end Ge
