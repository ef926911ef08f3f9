import Derived.Sort.Walk0
import Derived.Test.YtgnljbdobbahkaaDoorFn1
namespace Ge
open Go Gx
abbrev It := ByteArray × ByteArray × Int × Int × Int × Int
def itC (x : It) : List Value := [.string x.1, .string x.2.1, .int .i64 x.2.2.1, .int .i64 x.2.2.2.1, .int .i64 x.2.2.2.2.1, .int .i64 x.2.2.2.2.2]
theorem itC_len (x : It) : (itC x).length = 6 := rfl
theorem itC_one (x : It) : allOne (itC x) = true := rfl
def cmpB (a b : ByteArray) : Int := if bl a < bl b then -1 else if a = b then 0 else 1
def cmpI (a b : Int) : Int := if a < b then -1 else if a = b then 0 else 1
def orL : List Int → Int
 | [] => 0
 | c :: l => if c ≠ 0 then c else orL l
def ordL (x y : It) : List Int := [cmpB x.1 y.1, cmpB x.2.1 y.2.1, cmpI x.2.2.2.1 y.2.2.2.1, cmpI x.2.2.2.2.1 y.2.2.2.2.1, cmpI x.2.2.2.2.2 y.2.2.2.2.2, cmpI x.2.2.1 y.2.2.1]
def ord (x y : It) : Int := orL (ordL x y)
section
variable (k : Nat) (D : CallF)
theorem decI6 (x : It) : decC [.s, .s, .i .i64, .i .i64, .i .i64, .i .i64] (itC x) = some x := rfl
end
end Ge
namespace Ge
open Go Gx
def okI (x : It) : Prop := x.1.size = 32 ∧ x.2.1.size = 32 ∧ (x.2.2.1 = 1 ∨ x.2.2.1 = 2) ∧ (0 ≤ x.2.2.2.1 ∧ x.2.2.2.1 ≤ 65536) ∧ (1 ≤ x.2.2.2.2.1 ∧ x.2.2.2.2.1 ≤ 65536) ∧ (0 ≤ x.2.2.2.2.2 ∧ x.2.2.2.2.2 ≤ 65536)
instance (x : It) : Decidable (okI x) := by unfold okI; exact inferInstance
section
variable (k : Nat) (D : CallF)
end
end Ge
namespace Ge
open Go Gx
section
variable {k : Nat} {h : AHeap} {s : Slc} {xs : List It}
end
end Ge
namespace Ge
open Go Gx
structure SlotB (base : Nat) (h : AHeap) (tb b : Nat) (sp : Option Nat) (cap : Nat) (R : List Value) (s : Slc) (xs : List It) : Prop where
 s : s = ⟨some ⟨b, 0, sp⟩, xs.length, cap⟩
 blk : h.get b = some (.cells (xs.flatMap itC ++ R) 57 true 0)
 one : allOne R = true
 ge : base ≤ b
 lt : b < h.next
 ne : b ≠ tb
 le : xs.length ≤ cap
 room : cap * 6 ≤ xs.length * 6 + R.length
 sp : (sp = some 7 ∧ cap ≠ 0) ∨ (sp = some 0 ∧ cap = 0)
def SlotR (base : Nat) (h : AHeap) (tb : Nat) (s : Slc) (xs : List It) : Prop := (s = ⟨none, 0, 0⟩ ∧ xs = []) ∨ ∃ b sp cap R, SlotB base h tb b sp cap R s xs
section
variable {base tb : Nat} {h h' : AHeap} {s : Slc} {xs : List It}
theorem SlotR.chg {S : Nat → Prop} (A : SlotR base h tb s xs) (c : Chg S h h') (hs : ∀ a, s.a = some a → ¬ S a.block) : SlotR base h' tb s xs := by
 rcases A with A | ⟨b, sp, cap, R, A⟩
 ·exact .inl A
 ·exact .inr ⟨b, sp, cap, R, A.s, (c.oth b A.lt (hs ⟨b, 0, sp⟩ (by rw [A.s]))).trans A.blk, A.one, A.ge, Nat.lt_of_lt_of_le A.lt c.nx, A.ne, A.le, A.room, A.sp⟩
theorem SlotR.keeps (A : SlotR base h tb s xs) (c : Keeps h h') : SlotR base h' tb s xs := A.chg c fun _ _ f => f
theorem SlotR.len (A : SlotR base h tb s xs) : s.len = xs.length := by
 rcases A with ⟨rfl, rfl⟩ | ⟨b, sp, cap, R, A⟩
 ·rfl
 ·rw [A.s]
theorem flat_get {ys : List It} {R : List Value} {i : Nat} {x : It} (hx : ys[i]? = some x) (j : Nat) (v : Value) (hv : (itC x)[j]? = some v) : (ys.flatMap itC ++ R)[i * 6 + j]? = some v := by
 have := flatW_get itC_len hx j v hv
 rw [List.getElem?_append_left (List.getElem?_eq_some_iff.1 this).1]; exact this
theorem SlotR.row (A : SlotR base h tb s xs) : RowW 6 itC h s xs := by
 rcases A with ⟨rfl, rfl⟩ | ⟨b, sp, cap, R, A⟩
 ·exact RowW.nil _ _ _ _ _
 ·rw [A.s]
  exact ⟨rfl, fun i x hx => ⟨_, _, _, _, _, rfl, A.lt, A.blk, fun j v hv => by rw [Nat.zero_add]; exact flat_get hx j v hv⟩⟩
theorem SlotR.own (A : SlotR base h tb s xs) : ∀ a, s.a = some a → base ≤ a.block ∧ a.block < h.next ∧ a.block ≠ tb := by
 rcases A with ⟨rfl, rfl⟩ | ⟨b, sp, cap, R, A⟩
 ·intro a ha; cases ha
 ·intro a ha; rw [A.s] at ha; cases ha; exact ⟨A.ge, A.lt, A.ne⟩
end
end Ge
namespace Ge
open Go Gx
def Lx {α β : Type} (lt : α → α → Prop) (R : β → β → Prop) (x y : α × β) : Prop := lt x.1 y.1 ∨ x.1 = y.1 ∧ R x.2 y.2
theorem Lx.trans {α β : Type} {lt : α → α → Prop} {R : β → β → Prop} (h1 : ∀ a b c, lt a b → lt b c → lt a c) (h2 : ∀ a b c, R a b → R b c → R a c) : ∀ x y z : α × β, Lx lt R x y → Lx lt R y z → Lx lt R x z := by
 rintro ⟨a, b⟩ ⟨c, d⟩ ⟨e, f⟩ (p | ⟨p, p'⟩) (q | ⟨q, q'⟩)
 ·exact .inl (h1 _ _ _ p q)
 ·simp only at q p; subst q; exact .inl p
 ·simp only at q p; subst p; exact .inl q
 ·simp only at q p; subst p; subst q; exact .inr ⟨rfl, h2 _ _ _ p' q'⟩
def ltB (a b : ByteArray) : Prop := bl a < bl b
end Ge
namespace Ge
open Go Gx
def idx (id : ByteArray) : Nat := match bl id with
 | [] => 0
 | b :: _ => b.toNat
def tabC (sl : Nat → Slc) : List Value := (List.range 256).map fun i => .slice (sl i).a (sl i).len (sl i).cap
def upd {α : Type} (f : Nat → α) (i : Nat) (x : α) : Nat → α := fun j => if j = i then x else f j
def TOwn (tb : Nat) (sl : Nat → Slc) (y : Nat) : Prop := y = tb ∨ ∃ i, i < 256 ∧ ∃ a, (sl i).a = some a ∧ a.block = y
structure Tab (base : Nat) (h : AHeap) (tb : Nat) (sl : Nat → Slc) (F : Nat → List It) : Prop where
 blk : h.get tb = some (.cells (tabC sl) 125 true 0)
 lt : tb < h.next
 ge : base ≤ tb
 slot : ∀ i, i < 256 → SlotR base h tb (sl i) (F i)
 apart : ∀ i j a b, i < 256 → j < 256 → i ≠ j → (sl i).a = some a → (sl j).a = some b → a.block ≠ b.block
section
variable {base tb : Nat} {h h' : AHeap} {sl : Nat → Slc} {F : Nat → List It}
theorem Tab.own (T : Tab base h tb sl F) {y : Nat} (hy : TOwn tb sl y) : base ≤ y ∧ y < h.next := by
 rcases hy with rfl | ⟨i, hi, a, ha, rfl⟩
 ·exact ⟨T.ge, T.lt⟩
 ·have := (T.slot i hi).own a ha; exact ⟨this.1, this.2.1⟩
theorem Tab.chg {S : Nat → Prop} (T : Tab base h tb sl F) (c : Chg S h h') (hs : ∀ y, TOwn tb sl y → ¬ S y) : Tab base h' tb sl F :=
 ⟨(c.oth tb T.lt (hs tb (.inl rfl))).trans T.blk, Nat.lt_of_lt_of_le T.lt c.nx, T.ge, fun i hi => (T.slot i hi).chg c fun a ha => hs _ (.inr ⟨i, hi, a, ha, rfl⟩), T.apart⟩
theorem Tab.keeps (T : Tab base h tb sl F) (c : Keeps h h') : Tab base h' tb sl F := T.chg c fun _ _ f => f
end
section
variable {k base tb : Nat} {h : AHeap} {sl : Nat → Slc} {F : Nat → List It} {s : Slc} {xs : List It}
end
end Ge
namespace Ge
open Go Gx
section
variable {k base tb : Nat} {h : AHeap} {sl : Nat → Slc} {F : Nat → List It} {s : Slc} {xs : List It}
end
end Ge
namespace Ge
open Go Gx
section
variable {k base tb : Nat} {h : AHeap} {s : Slc} {xs : List It} {pb : Nat} {p : ByteArray}
end
end Ge
namespace Ge
open Go Gx
section
variable {k base tb : Nat} {h : AHeap} {sl : Nat → Slc} {F : Nat → List It}
end
end Ge
namespace Ge
open Go Gx
def Tru {R : Type} (x : Option (R × AHeap)) (v : R) : Prop := ∃ h', x = some (v, h')
theorem Tru.wp {R : Type} {v : R} {x : Option (R × AHeap)} (h : Gx.Wp x fun q => q.1 = v) : Tru x v := by
 obtain ⟨⟨a, b⟩, e, q⟩ := h
 simp only at q
 subst q
 exact ⟨b, e⟩
section
variable {k : Nat}
end
end Ge
namespace Ge
open Go Gx
variable {H : Type} {enc : TypeId × Value → H}
end Ge
namespace Ge
open Go Gx
def leb (n : Nat) : List UInt8 := if n < 128 then [UInt8.ofNat n] else UInt8.ofNat (n % 128 + 128) :: leb (n / 128)
termination_by n
decreasing_by omega
theorem leb_lt {n : Nat} (h : n < 128) : leb n = [UInt8.ofNat n] := by rw [leb]; rw [if_pos h]
theorem leb_ge {n : Nat} (h : ¬ n < 128) : leb n = UInt8.ofNat (n % 128 + 128) :: leb (n / 128) := by rw [leb]; rw [if_neg h]
theorem leb_pos (n : Nat) : 0 < (leb n).length := by
 by_cases h : n < 128
 ·rw [leb_lt h]; simp
 ·rw [leb_ge h]; simp
theorem leb_len : ∀ (d n : Nat), n < 128 ^ (d + 1) → (leb n).length ≤ d + 1
 | 0, n, h => by rw [leb_lt (by omega)]; simp
 | d + 1, n, h => by
  by_cases c : n < 128
  ·rw [leb_lt c]; simp
  ·rw [leb_ge c, List.length_cons]
   have : n / 128 < 128 ^ (d + 1) := (Nat.div_lt_iff_lt_mul (by decide)).2 (by rw [Nat.pow_succ] at h; exact h)
   have := leb_len d (n / 128) this
   omega
def bA (l : List UInt8) : ByteArray := ⟨⟨l⟩⟩
theorem bA_size (l : List UInt8) : (bA l).size = l.length := rfl
theorem or128 : ∀ a : Fin 256, Go.bits .or .u8 (a.val : Int) 128 = ((a.val % 128 + 128 : Nat) : Int) := by decide +kernel
section
variable {k : Nat}
theorem encB_of (m : Nat) (h : m < 256) : Value.int .u8 (m : Int) = encB (UInt8.ofNat m) := by
 unfold encB
 congr 1
 have : (UInt8.ofNat m).toNat = m := by simp [UInt8.toNat_ofNat']; omega
 omega
theorem bytes_row {h : AHeap} {s : Slc} {l : List UInt8} (R : Row encB h s l) : bytesOf h s = some (bA l) := by
 have := R.rdS
 unfold Gx.rdS at this
 unfold bytesOf
 cases e : s.a with
 | none =>
  rw [e] at this
  have e2 : l.map encB = [] := by
   cases hl : l.map encB with
   | nil => rfl
   | cons x y => rw [hl] at this; cases this
  have : l = [] := by simpa using e2
  rw [this]; rfl
 | some a =>
  rw [e] at this
  simp only [Nat.mul_one] at this
  show (h.rdL a.block a.off s.len).bind _ = _
  rw [this]
  show (unbytes (l.map encB)).bind _ = _
  rw [unbytes_map]; rfl
theorem short_spec (D : CallF) (hk : 20 ≤ k) (n : Nat) (hn : n < 9223372036854775808) (h : AHeap) : Gx.Wp (num_Short k D (n : Int) h) fun z => z.1 = (bA (leb n), 0) ∧ Keeps h z.2 := by
 simp only [num_Short]
 refine .ifn (by simp) (Gx.Wp.jn fun j4 h4 => ?_)
 unfold num_Short_l0
 obtain ⟨bot, eb⟩ := iterK_of (fun _ _ _ => none) (num_Short_l0b k D j4) (show 9 + 1 ≤ k by omega)
 rw [eb]
 have loop : ∀ (d m : Nat) (l : List UInt8) (o : Slc) (H : AHeap), m < 128 ^ (d + 1) → m < 9223372036854775808 → l.length + d ≤ 20 → l ++ leb m = leb n → Keeps h H → Acc encB 5 h.next H o l → Gx.Wp (iterK bot (d + 1) (num_Short_l0b k D j4) (m : Int) o H) fun z => z.1 = (bA (leb n), 0) ∧ Keeps h z.2 := fun d => by
  induction d with
  | zero =>
   intro m l o H hm hm2 hl hlm kp A
   rw [iterK_s]; simp only [num_Short_l0b]
   have hm' : m < 128 := by simpa using hm
   refine .ifn (by simp; omega) ?_
   rw [h4]
   refine Wp.newE fun H1 e1 k1 n1 g1 => ?_
   rw [Gx.w8 _ (by omega), encB_of m (by omega)] at e1
   obtain ⟨s', h9, a1, a2, A', c9, d9⟩ := Acc.pushK A (fun _ => rfl) (UInt8.ofNat m) (bytes := 1) e1 (by omega) (by decide) kp.nx
   refine .bnd a1 (.bnd a2 (.bnd (bytes_row A'.row) (.of ⟨?_, kp.keepsS c9 fun y ⟨a, ha, e⟩ => by rw [e]; exact (A.lt a ha).2⟩)))
   rw [← hlm, leb_lt hm']
  | succ d ih =>
   intro m l o H hm hm2 hl hlm kp A
   rw [iterK_s]; simp only [num_Short_l0b]
   by_cases c : m < 128
   ·refine .ifn (by simp; omega) ?_
    rw [h4]
    refine Wp.newE fun H1 e1 k1 n1 g1 => ?_
    rw [Gx.w8 _ (by omega), encB_of m (by omega)] at e1
    obtain ⟨s', h9, a1, a2, A', c9, d9⟩ := Acc.pushK A (fun _ => rfl) (UInt8.ofNat m) (bytes := 1) e1 (by omega) (by decide) kp.nx
    refine .bnd a1 (.bnd a2 (.bnd (bytes_row A'.row) (.of ⟨?_, kp.keepsS c9 fun y ⟨a, ha, e⟩ => by rw [e]; exact (A.lt a ha).2⟩)))
    rw [← hlm, leb_lt c]
   ·refine .ifp (by simp; omega) (Wp.newE fun H1 e1 k1 n1 g1 => ?_)
    have ew : IntKind.wrap .u8 (m : Int) = ((m % 256 : Nat) : Int) := by rw [Go.IntKind.wrap_u8]; omega
    have eo : Go.bits .or .u8 (IntKind.wrap .u8 (m : Int)) 128 = ((m % 128 + 128 : Nat) : Int) := by
     rw [ew, or128 ⟨m % 256, by omega⟩]
     congr 2
     show m % 256 % 128 = m % 128
     omega
    rw [eo, encB_of _ (by omega)] at e1
    obtain ⟨s', h9, a1, a2, A', c9, d9⟩ := Acc.pushK A (fun _ => rfl) (UInt8.ofNat (m % 128 + 128)) (bytes := 1) e1 (by omega) (by decide) kp.nx
    refine .bnd a1 (.bnd a2 ?_)
    have ef : Int.fdiv (m : Int) 128 = ((m / 128 : Nat) : Int) := by rw [Int.fdiv_eq_ediv_of_nonneg _ (by decide)]; omega
    rw [ef]
    refine ih (m / 128) (l ++ [UInt8.ofNat (m % 128 + 128)]) s' h9 ((Nat.div_lt_iff_lt_mul (by decide)).2 (by rw [Nat.pow_succ] at hm; exact hm)) (by omega) (by rw [List.length_append, List.length_singleton]; omega) ?_ (kp.keepsS c9 fun y ⟨a, ha, e⟩ => by rw [e]; exact (A.lt a ha).2) A'
    rw [← hlm, leb_ge c]; simp
 exact loop 9 n [] ⟨none, 0, 0⟩ h (Nat.lt_of_lt_of_le hn (by decide)) hn (by simp) (by simp) (.refl _ _) (Acc.nil _ _ _ _)
end
end Ge
namespace Ge
open Go Gx
structure BuS (base : Nat) (H : AHeap) (bb : Nat) (s : Slc) (l : List UInt8) : Prop where
 blk : ∃ pv, H.get bb = some (.cells [pv, .slice s.a s.len s.cap] 100 true 0) ∧ (pv = .pointer none ∨ pv = .pointer (some ⟨bb, 0, none⟩))
 acc : Acc encB 5 base H s l
 lt : bb < H.next
 ge : base ≤ bb
 ne : ∀ a, s.a = some a → a.block ≠ bb
def BOwn (bb : Nat) (s : Slc) (y : Nat) : Prop := y = bb ∨ ofS s y
section
variable {k base bb : Nat} {h H H' : AHeap} {s : Slc} {l : List UInt8}
theorem BuS.own (B : BuS base H bb s l) {y : Nat} (hy : BOwn bb s y) : base ≤ y ∧ y < H.next := by
 rcases hy with rfl | ⟨a, ha, rfl⟩
 ·exact ⟨B.ge, B.lt⟩
 ·exact ⟨(B.acc.lt a ha).2, (B.acc.lt a ha).1⟩
theorem BuS.chg {S : Nat → Prop} (B : BuS base H bb s l) (c : Chg S H H') (hs : ∀ y, BOwn bb s y → ¬ S y) : BuS base H' bb s l :=
 ⟨by
  obtain ⟨pv, g, e⟩ := B.blk
  exact ⟨pv, (c.oth bb B.lt (hs bb (.inl rfl))).trans g, e⟩, B.acc.chg c fun a ha => hs _ (.inr ⟨a, ha, rfl⟩), Nat.lt_of_lt_of_le B.lt c.nx, B.ge, B.ne⟩
theorem BuS.keeps (B : BuS base H bb s l) (c : Keeps H H') : BuS base H' bb s l := B.chg c fun _ _ f => f
theorem BuS.new (H : AHeap) (g : H'.get H.next = some (.cells [.pointer none, .slice none 0 0] 100 true 0)) (n : H'.next = H.next + 1) : BuS H.next H' H.next ⟨none, 0, 0⟩ [] :=
 ⟨⟨_, g, .inl rfl⟩, Acc.nil _ _ _ _, by omega, Nat.le_refl _, fun a ha => by cases ha⟩
theorem write_spec (D : CallF) (B : BuS base H bb s l) (x : ByteArray) (hx : 2 * (l.length + x.size) ≤ 281474976710656) :
  Gx.Wp (strings_Builder_WriteString k D (some ⟨bb, 0, none⟩) x H) fun z => ∃ s', BuS base z.2 bb s' (l ++ bl x) ∧ Chg (BOwn bb s) H z.2 ∧ ∀ y, BOwn bb s' y → H.next ≤ y ∨ BOwn bb s y := by
 simp only [strings_Builder_WriteString]
 obtain ⟨pv, g, hpv⟩ := B.blk
 have hlt := B.lt
 have hge := B.ge
 obtain ⟨H1, e1, g1, c1⟩ : ∃ H1, ccA ccTab ⟨bb, 0, none⟩ H = some H1 ∧ H1.get bb = some (.cells [.pointer (some ⟨bb, 0, none⟩), .slice s.a s.len s.cap] 100 true 0) ∧ Chg (· = bb) H H1 := by
  have ht : tabIn 100 0 2 ccTab = true := by decide
  rcases hpv with rfl | rfl
  ·refine ⟨_, ?_, sset_get _ _ _, Chg.set (.inr rfl)⟩
   ·unfold ccA
    simp only [g]
    rw [if_pos ⟨by simpa using ht, trivial⟩]
    show st1 ⟨bb, 0, none⟩ _ H = _
    rw [st1_of g (by simp) rfl]; rfl
  ·refine ⟨H, ?_, g, .refl _ _⟩
   ·unfold ccA
    simp only [g]
    rw [if_pos ⟨by simpa using ht, trivial⟩]
    simp
 have nx1 := c1.nx
 have A1 : Acc encB 5 base H1 s l := B.acc.chg c1 fun a ha e => B.ne a ha e
 obtain ⟨s', h5, a5, A5, c5, d5⟩ : ∃ s' h5, appendA 1 1 5 H1 s (bytesL x) x.size = some (s', h5) ∧ Acc encB 5 base h5 s' (l ++ bl x) ∧ Chg (ofS s) H1 h5 ∧ ∀ a, s'.a = some a → H1.next ≤ a.block ∨ ofS s a.block := by
  by_cases c : bl x = []
  ·have hx0 : x = ⟨#[]⟩ := bl_inj (by rw [c]; rfl)
   subst hx0
   refine ⟨s, H1, ?_, by rw [c, List.append_nil]; exact A1, .refl _ _, fun a ha => .inr ⟨a, ha, rfl⟩⟩
   rcases A1.st with ⟨rfl, _⟩ | ⟨b, gg⟩
   ·rfl
   ·rw [gg.s]
    show appendA 1 1 5 H1 _ [] 0 = _
    simp [appendA]
  ·obtain ⟨s', h5, p1, p2, p3, p4⟩ := A1.app (fun _ => rfl) (bl x) (bytes := 1) (by have : (bl x).length = x.size := rfl; omega) (by decide) (by omega)
   exact ⟨s', h5, p1, p2, p3, fun a ha => (p4 a ha).imp id fun q => ⟨a, q, rfl⟩⟩
 have n5 := c5.nx
 have g5 : h5.get bb = some (.cells [.pointer (some ⟨bb, 0, none⟩), .slice s.a s.len s.cap] 100 true 0) := c5.got (by omega) (fun ⟨a, ha, e⟩ => B.ne a ha e.symm) g1
 refine .bnd rfl (.bnd e1 (.bnd rfl (.bnd (sldL_at (o := 0 + 1) g1 rfl) (.bnd a5 (.bnd rfl (.bnd (st1_of g5 (by simp) rfl) (.of ?_)))))))
 have d5' : ∀ a, s'.a = some a → a.block ≠ bb := fun a ha e => by
  rcases d5 a ha with q | ⟨b, hb, q⟩
  ·omega
  ·exact B.ne b hb (q ▸ e)
 refine ⟨s', ⟨⟨_, sset_get _ _ _, .inr rfl⟩, A5.chg (S := (· = bb)) (Chg.set (.inr rfl)) fun a ha e => d5' a ha e, by simp; omega, hge, d5'⟩, ?_, ?_⟩
 ·refine Chg.beh (T := (· = bb)) (Chg.beh (T := ofS s) (c1.wk fun y _ e => .inl e) c5 fun y _ e => .inr e) (Chg.set (.inr rfl)) fun y _ e => .inl e
 ·rintro y (rfl | ⟨a, ha, rfl⟩)
  ·exact .inr (.inl rfl)
  ·rcases d5 a ha with q | q
   ·left; omega
   ·exact .inr (.inr q)
theorem unbytesS_map (l : List UInt8) : unbytesS (l.map encB) = some l := by
 induction l with
 | nil => rfl
 | cons x l ih =>
  have hx := x.toNat_lt
  simp only [List.map_cons, encB, unbytesS]
  rw [if_pos (by omega), ih]
  simp
end
end Ge
namespace Ge
open Go Gx
instance (a b : ByteArray) : Decidable (ltB a b) := by unfold ltB; exact inferInstance
section
variable {k : Nat} {h : AHeap} {fs fi : Slc} {sup : List ByteArray} {its : List It}
end
end Ge
namespace Ge
open Go Gx
section
variable {k : Nat} {h : AHeap} {fs fi : Slc} {sup : List ByteArray} {its : List It}
end
end Ge
namespace Ge
open Go Gx
section
variable {k : Nat} {h : AHeap}
end
end Ge
namespace Ge
open Go Gx
section
variable {k : Nat} {h : AHeap} {fs fi : Slc} {sup : List ByteArray} {its : List It}
end
end Ge
namespace Ge
open Go Gx
def lebQ : Nat → Bool → List UInt8 → Option (Nat × List UInt8)
 | 0, _, _ => none
 | _ + 1, _, [] => none
 | d + 1, f, c :: l => if 128 ≤ c.toNat then (lebQ d false l).map fun p => (c.toNat - 128 + 128 * p.1, p.2) else if c.toNat = 0 ∧ f = false then none else some (c.toNat, l)
theorem lebQ_suf : ∀ {d : Nat} {f : Bool} {l : List UInt8} {n : Nat} {r : List UInt8}, lebQ d f l = some (n, r) → ∃ m, m ≤ l.length ∧ r = l.drop m
 | 0, _, _, _, _, h => by simp [lebQ] at h
 | _ + 1, _, [], _, _, h => by simp [lebQ] at h
 | d + 1, f, c :: l, n, r, h => by
  unfold lebQ at h
  split at h
  ·rw [Option.map_eq_some_iff] at h
   obtain ⟨⟨m, r2⟩, h1, h2⟩ := h
   cases h2
   obtain ⟨q, q1, q2⟩ := lebQ_suf h1
   exact ⟨q + 1, by simpa using q1, by simpa using q2⟩
  ·split at h
   ·cases h
   ·cases h; exact ⟨1, by simp, by simp⟩
theorem lebQ_leb : ∀ {d : Nat} {f : Bool} {l : List UInt8} {n : Nat} {r : List UInt8}, lebQ d f l = some (n, r) → l = leb n ++ r ∧ (f = false → 0 < n)
 | 0, _, _, _, _, h => by simp [lebQ] at h
 | _ + 1, _, [], _, _, h => by simp [lebQ] at h
 | d + 1, f, c :: l, n, r, h => by
  unfold lebQ at h
  have hc := c.toNat_lt
  split at h
  ·rename_i hge
   rw [Option.map_eq_some_iff] at h
   obtain ⟨⟨m, r2⟩, h1, h2⟩ := h
   cases h2
   obtain ⟨q1, q2⟩ := lebQ_leb h1
   have hm : 0 < m := q2 rfl
   refine ⟨?_, fun _ => by omega⟩
   rw [leb_ge (by omega), show (c.toNat - 128 + 128 * m) % 128 + 128 = c.toNat by omega, show (c.toNat - 128 + 128 * m) / 128 = m by omega, q1, UInt8.ofNat_toNat]
   rfl
  ·rename_i hlt
   split at h
   ·cases h
   ·rename_i hz
    cases h
    refine ⟨?_, fun hf => ?_⟩
    ·rw [leb_lt (by omega), UInt8.ofNat_toNat]; rfl
    ·by_cases e : c.toNat = 0
     ·exact absurd ⟨e, hf⟩ hz
     ·omega
theorem lebQ_of (d : Nat) : ∀ {n : Nat} {f : Bool} (r : List UInt8), n < 128 ^ (d + 1) → (f = false → 0 < n) → lebQ (d + 1) f (leb n ++ r) = some (n, r) := by
 have one : ∀ (d n : Nat) (f : Bool) (r : List UInt8), n < 128 → (f = false → 0 < n) → lebQ (d + 1) f (leb n ++ r) = some (n, r) := fun d n f r c hf => by
  rw [leb_lt c]
  show (if 128 ≤ (UInt8.ofNat n).toNat then _ else if (UInt8.ofNat n).toNat = 0 ∧ f = false then none else some ((UInt8.ofNat n).toNat, r)) = _
  have e : (UInt8.ofNat n).toNat = n := by simp [UInt8.toNat_ofNat']; omega
  rw [e, if_neg (by omega), if_neg (fun q => by have := hf q.2; omega)]
 induction d with
 | zero => exact fun {n f} r h hf => one 0 n f r (by simpa using h) hf
 | succ d ih =>
  intro n f r h hf
  by_cases c : n < 128
  ·exact one (d + 1) n f r c hf
  ·rw [leb_ge c]
   have hlt : n % 128 + 128 < 256 := by omega
   have e : (UInt8.ofNat (n % 128 + 128)).toNat = n % 128 + 128 := by simp [UInt8.toNat_ofNat']; omega
   show (if 128 ≤ (UInt8.ofNat (n % 128 + 128)).toNat then (lebQ (d + 1) false (leb (n / 128) ++ r)).map (fun p => ((UInt8.ofNat (n % 128 + 128)).toNat - 128 + 128 * p.1, p.2)) else _) = _
   rw [e, if_pos (by omega), ih r ((Nat.div_lt_iff_lt_mul (by decide)).2 (by rw [Nat.pow_succ] at h; exact h)) (fun _ => by omega)]
   simp
   omega
def pS (most : Nat) (l : List UInt8) : Option (Nat × List UInt8) := (lebQ 9 true l).bind fun p => if most < p.1 then none else some p
abbrev Rd := Option (List UInt8)
def opS (most : Nat) (s : Rd) : Nat × Rd := match s.bind (pS most) with
 | some (n, l) => (n, some l)
 | none => (0, none)
def opB (n : Nat) (s : Rd) : ByteArray × Rd := match s with
 | some l => if n ≤ l.length then (bA (l.take n), some (l.drop n)) else (⟨#[]⟩, none)
 | none => (⟨#[]⟩, none)
def opF (s : Rd) : Nat × Rd := match s with
 | some (c :: l) => (c.toNat, some l)
 | _ => (0, none)
theorem pS_leb {most n : Nat} {l r : List UInt8} (h : pS most l = some (n, r)) : l = leb n ++ r ∧ n ≤ most := by
 unfold pS at h
 rw [Option.bind_eq_some_iff] at h
 obtain ⟨p, h1, h2⟩ := h
 split at h2
 ·cases h2
 ·cases h2
  exact ⟨(lebQ_leb h1).1, by omega⟩
theorem opB_some {n : Nat} {l : List UInt8} (h : n ≤ l.length) : opB n (some l) = (bA (l.take n), some (l.drop n)) := by simp [opB, h]
end Ge
namespace Ge
open Go Gx
theorem or_low {n m i : Nat} (hn : n < 2 ^ i) (hb : n + m * 2 ^ i < 9223372036854775808) : Go.bits .or .i64 (n : Int) ((m * 2 ^ i : Nat) : Int) = ((n + m * 2 ^ i : Nat) : Int) := by
 have hw : ∀ z : Int, 0 ≤ z → z < 2 ^ 63 → IntKind.wrap .i64 z = z := fun z h0 h1 => Gx.w64 z (by omega)
 have e := (bits_nat .i64 63 (by decide) hw n (m * 2 ^ i) (by omega) (by omega)).2
 rw [e]
 congr 1
 have := Nat.two_pow_add_eq_or_of_lt hn m
 rw [Nat.or_comm, Nat.mul_comm, ← this]
 omega
theorem andNot128 : ∀ a : Fin 256, Go.bits .andNot .i64 (a.val : Int) 128 = ((a.val % 128 : Nat) : Int) := by decide +kernel
theorem p128 (i : Nat) : 128 ^ i = 2 ^ (7 * i) := by rw [Nat.pow_mul]
def PRd (H : AHeap) (rb : Nat) (st : Rd) : Prop := ∃ (s : ByteArray) (e : Int), H.get rb = some (.cells [.string s, .int .i64 e] 157 true 0) ∧ s.size ≤ 1000000 ∧ (e = 0 ↔ st.isSome = true) ∧ ∀ l, st = some l → s = bA l
section
variable {k rb : Nat} {H H' : AHeap} {st : Rd}
theorem PRd.chg {S : Nat → Prop} (P : PRd H rb st) (hr : rb < H.next) (c : Chg S H H') (hs : ¬ S rb) : PRd H' rb st := by
 obtain ⟨s, e, h1, h2⟩ := P
 exact ⟨s, e, c.got hr hs h1, h2⟩
theorem PRd.keeps (P : PRd H rb st) (hr : rb < H.next) (c : Keeps H H') : PRd H' rb st := P.chg hr c fun f => f
theorem PRd.ok {l : List UInt8} (g : H.get rb = some (.cells [.string (bA l), .int .i64 0] 157 true 0)) (hl : l.length ≤ 1000000) : PRd H rb (some l) := ⟨bA l, 0, g, hl, by simp, fun l' h => by cases h; rfl⟩
theorem PRd.bad {s : ByteArray} {e : Int} (g : H.get rb = some (.cells [.string s, .int .i64 e] 157 true 0)) (hl : s.size ≤ 1000000) (he : e ≠ 0) : PRd H rb none := ⟨s, e, g, hl, by simpa using he, fun l h => by cases h⟩
theorem nshort_spec (D : CallF) (hk : 20 ≤ k) (s : ByteArray) (h : AHeap) : ∃ r, num_short k D s h = some (r, h) ∧ (match lebQ 9 true (bl s) with
  | some (n, m) => ∃ lg : Nat, lg ≤ s.size ∧ r = ((n : Int), (lg : Int), 0) ∧ m = (bl s).drop lg
  | none => r.2.2 ≠ 0) := by
 simp only [num_short]
 obtain ⟨Y, hY⟩ : ∃ Y : Nat, Y = min 9 s.size := ⟨_, rfl⟩
 have eY : (if 9 < (s.size : Int) then 9 else (s.size : Int)) = (Y : Int) := by
  by_cases c : 9 < s.size
  ·rw [if_pos (by omega)]; omega
  ·rw [if_neg (by omega)]; omega
 rw [eY]
 have hl : (bl s).length = s.size := rfl
 suffices hh : ∀ j3, j3 = (fun (s1 : ByteArray) (h2 : AHeap) => (if (decide ((s1.size : Int) < 9)) = true then some (((0 : Int), (0 : Int), (10 : Int)), h2) else some ((0, 0, 3), h2))) → ∃ r, num_short_l0 k D j3 s 0 (Y : Int) 0 h = some (r, h) ∧ (match lebQ 9 true (bl s) with
  | some (n, m) => ∃ lg : Nat, lg ≤ s.size ∧ r = ((n : Int), (lg : Int), 0) ∧ m = (bl s).drop lg
  | none => r.2.2 ≠ 0) from hh _ rfl
 intro j3 h3
 unfold num_short_l0
 obtain ⟨bot, eb⟩ := iterK_of (fun _ _ _ _ _ => none) (num_short_l0b k D j3) (show Y + 1 ≤ k by omega)
 rw [eb]
 have loop : ∀ (d i n : Nat), i + d = Y → n < 128 ^ i → ∃ r, iterK bot (d + 1) (num_short_l0b k D j3) s (n : Int) (Y : Int) (i : Int) h = some (r, h) ∧ (match lebQ (9 - i) (decide (i = 0)) ((bl s).drop i) with
   | some (v, m) => ∃ lg : Nat, lg ≤ s.size ∧ r = (((n + v * 128 ^ i : Nat) : Int), (lg : Int), 0) ∧ m = (bl s).drop lg
   | none => r.2.2 ≠ 0) := fun d => by
  induction d with
  | zero =>
   intro i n hd hn
   obtain rfl : i = Y := by omega
   rw [iterK_s]; simp only [num_short_l0b]
   rw [if_neg (by simp), h3]
   by_cases c : s.size < 9
   ·refine ⟨(0, 0, 10), by dsimp only; rw [if_pos (by simp; omega)], ?_⟩
    obtain ⟨e, he⟩ : ∃ e, 9 - i = e + 1 := ⟨9 - i - 1, by omega⟩
    rw [List.drop_of_length_le (by omega), he]
    simp [lebQ]
   ·refine ⟨(0, 0, 3), by dsimp only; rw [if_neg (by simp; omega)], ?_⟩
    rw [show 9 - i = 0 by omega]
    simp [lebQ]
  | succ d ih =>
   intro i n hd hn
   rw [iterK_s]; simp only [num_short_l0b]
   obtain ⟨c, hc⟩ := isome (l := bl s) (i := i) (by omega)
   have hcl := c.toNat_lt
   obtain ⟨e, he⟩ : ∃ e, 9 - i = e + 1 := ⟨8 - i, by omega⟩
   have he2 : 9 - (i + 1) = e := by omega
   have e7 : IntKind.wrap .i64 (7 * (i : Int)) = ((7 * i : Nat) : Int) := by rw [Gx.w64 _ (by omega)]; omega
   have ewc : IntKind.wrap .i64 (c.toNat : Int) = (c.toNat : Int) := Gx.w64 _ (by omega)
   have hpi : 2 ^ (7 * i) ≤ 2 ^ 56 := Nat.pow_le_pow_right (by decide) (by omega)
   rw [p128] at hn
   have hm : (c.toNat % 128) * 2 ^ (7 * i) ≤ 127 * 2 ^ 56 := Nat.mul_le_mul (by omega) hpi
   have h56 : (2 : Nat) ^ 56 = 72057594037927936 := by decide
   have hsum : n + c.toNat % 128 * 2 ^ (7 * i) < 128 ^ (i + 1) := by
    rw [p128, show 7 * (i + 1) = 7 + 7 * i by omega, Nat.pow_add]
    have : c.toNat % 128 + 1 ≤ 2 ^ 7 := by omega
    have := Nat.mul_le_mul_right (2 ^ (7 * i)) this
    rw [Nat.add_mul] at this
    omega
   have et : Go.bits .or .i64 (n : Int) (IntKind.wrap .i64 ((Go.bits .andNot .i64 (IntKind.wrap .i64 (c.toNat : Int)) 128) * 2 ^ (min (IntKind.wrap .i64 (7 * (i : Int))).toNat (IntKind.bits .i64)))) = ((n + c.toNat % 128 * 2 ^ (7 * i) : Nat) : Int) := by
    rw [ewc, andNot128 ⟨c.toNat, hcl⟩, e7, Int.toNat_natCast, show min (7 * i) (IntKind.bits .i64) = 7 * i from Nat.min_eq_left (by show 7 * i ≤ 64; omega)]
    have e2 : (((c.toNat % 128 : Nat) : Int) * 2 ^ (7 * i)) = ((c.toNat % 128 * 2 ^ (7 * i) : Nat) : Int) := by rw [Int.natCast_mul, Int.natCast_pow]; rfl
    show Go.bits .or .i64 (n : Int) (IntKind.wrap .i64 (((c.toNat % 128 : Nat) : Int) * 2 ^ (7 * i))) = _
    rw [e2, Gx.w64 _ (by omega), or_low hn (by omega)]
   rw [if_pos (by simp; omega)]
   rw [show Gx.idxS s (i : Int) = some (c.toNat : Int) from idxS_of hc]
   simp only [Option.bind_some]
   rw [if_pos (by rw [e7]; omega), et, ewc, he, dropc hc]
   by_cases c1 : 128 ≤ c.toNat
   ·rw [if_pos (by simp; omega), Gx.w1 (by omega)]
    obtain ⟨r, g1, g2⟩ := ih (i + 1) (n + c.toNat % 128 * 2 ^ (7 * i)) (by omega) hsum
    refine ⟨r, g1, ?_⟩
    rw [he2] at g2
    have eq : lebQ (e + 1) (decide (i = 0)) (c :: (bl s).drop (i + 1)) = (lebQ e false ((bl s).drop (i + 1))).map fun p => (c.toNat - 128 + 128 * p.1, p.2) := by
     conv => lhs; unfold lebQ
     rw [if_pos c1]
    rw [show decide (i + 1 = 0) = false by simp] at g2
    rw [eq]
    cases hq : lebQ e false ((bl s).drop (i + 1)) with
    | none => rw [hq] at g2; exact g2
    | some p =>
     obtain ⟨v, m⟩ := p
     rw [hq] at g2
     obtain ⟨lg, k1, k2, k3⟩ := g2
     refine ⟨lg, k1, ?_, k3⟩
     rw [k2]
     have : n + c.toNat % 128 * 2 ^ (7 * i) + v * 128 ^ (i + 1) = n + (c.toNat - 128 + 128 * v) * 128 ^ i := by
      rw [← p128, show c.toNat % 128 = c.toNat - 128 by omega, Nat.pow_succ, Nat.add_mul]
      have : v * (128 ^ i * 128) = 128 * v * 128 ^ i := by rw [← Nat.mul_assoc, Nat.mul_comm _ 128, ← Nat.mul_assoc]
      omega
     rw [this]
   ·rw [if_neg (by simp; omega)]
    have e8 : c.toNat % 128 = c.toNat := Nat.mod_eq_of_lt (by omega)
    have eq : lebQ (e + 1) (decide (i = 0)) (c :: (bl s).drop (i + 1)) = if c.toNat = 0 ∧ decide (i = 0) = false then none else some (c.toNat, (bl s).drop (i + 1)) := by
     conv => lhs; unfold lebQ
     rw [if_neg c1]
    rw [eq, e8]
    by_cases c2 : c.toNat = 0
    ·by_cases c3 : i = 0
     ·rw [if_neg (fun q => by simp [c3] at q)]
      refine ⟨(((n + c.toNat * 2 ^ (7 * i) : Nat) : Int), ((i + 1 : Nat) : Int), 0), ?_, i + 1, by omega, by rw [p128], rfl⟩
      show (if ((c.toNat : Int) == 0) = true then _ else _) = _
      rw [if_pos (by simp [c2])]
      show (if decide ((i : Int) > 0) = true then _ else _) = _
      rw [if_neg (by simp [c3]), Gx.w1 (by omega)]
     ·rw [if_pos ⟨c2, by simp [c3]⟩]
      refine ⟨(0, 0, 3), ?_, by simp⟩
      show (if ((c.toNat : Int) == 0) = true then _ else _) = _
      rw [if_pos (by simp [c2])]
      show (if decide ((i : Int) > 0) = true then _ else _) = _
      rw [if_pos (by simp; omega)]
    ·rw [if_neg (fun q => c2 q.1)]
     refine ⟨(((n + c.toNat * 2 ^ (7 * i) : Nat) : Int), ((i + 1 : Nat) : Int), 0), ?_, i + 1, by omega, by rw [p128], rfl⟩
     show (if ((c.toNat : Int) == 0) = true then _ else _) = _
     rw [if_neg (by simp; omega)]
     show (if false = true then _ else _) = _
     rw [if_neg (by decide), Gx.w1 (by omega)]
 obtain ⟨r, g1, g2⟩ := loop Y 0 0 (by omega) (by decide)
 refine ⟨r, g1, ?_⟩
 rw [List.drop_zero] at g2
 simpa using g2
theorem fail_spec (D : CallF) (e : Int) {s : ByteArray} {e0 : Int} (g : H.get rb = some (.cells [.string s, .int .i64 e0] 157 true 0)) :
  Gx.Wp (num_Reader_Fail k D (some ⟨rb, 0, none⟩) e H) fun z => z.2.get rb = some (.cells [.string s, .int .i64 (if e0 = 0 then e else e0)] 157 true 0) ∧ Chg (· = rb) H z.2 := by
 simp only [num_Reader_Fail]
 refine .bnd rfl (.bnd (sldI_at (o := 0 + 1) g rfl) ?_)
 by_cases c : e0 = 0
 ·refine .ifp (by simp [c]) (.bnd rfl (.bnd (st1_of (o := 0 + 1) g (by simp) rfl) (.of ⟨?_, Chg.set (.inr rfl)⟩)))
  rw [sset_get, if_pos c]; rfl
 ·refine .ifn (by simp [c]) (.of ⟨by rw [if_neg c]; exact g, .refl _ _⟩)
theorem rshort_spec (D : CallF) (hk : 20 ≤ k) (P : PRd H rb st) (most : Nat) :
  Gx.Wp (num_Reader_Short k D (some ⟨rb, 0, none⟩) (most : Int) H) fun z => z.1 = ((opS most st).1 : Int) ∧ PRd z.2 rb (opS most st).2 ∧ Chg (· = rb) H z.2 := by
 simp only [num_Reader_Short]
 obtain ⟨s, e, g, hsz, he, hl⟩ := P
 obtain ⟨r, r1, r2⟩ := nshort_spec D hk s H
 refine .bnd rfl (.bnd (show ldS ⟨rb, 0 + 0, none⟩ H = some s by simp [ldS, AHeap.rd1, g, decS]) (.bnd r1 (Gx.Wp.jn fun j9 h9 => Gx.Wp.jn fun j24 h24 => ?_)))
 have bad : ∀ (n lg e2 : Int), (e2 ≠ 0 ∨ e ≠ 0) → (opS most st) = (0, none) → Gx.Wp (j9 (some ⟨rb, 0, none⟩) n lg e2 H) fun z => z.1 = ((opS most st).1 : Int) ∧ PRd z.2 rb (opS most st).2 ∧ Chg (· = rb) H z.2 := fun n lg e2 hne ho => by
  rw [h9, ho]
  refine .call (fail_spec D e2 g) fun z ⟨z1, z2⟩ => .bnd rfl (.bnd (sldI_at (o := 0 + 1) z1 rfl) ?_)
  have hne2 : (if e = 0 then e2 else e) ≠ 0 := by
   by_cases c : e = 0
   ·rw [if_pos c]; exact hne.resolve_right (fun q => q c)
   ·rw [if_neg c]; exact c
  exact .ifp (by simpa using hne2) (.of ⟨rfl, PRd.bad z1 hsz hne2, z2⟩)
 cases st with
 | none =>
  have hne : e ≠ 0 := fun q => by simpa using he.1 q
  have ho : opS most none = (0, none) := rfl
  by_cases c : r.2.2 = 0
  ·refine .ifp (by simpa using c) ?_
   rw [h24]
   by_cases c2 : r.1 > (most : Int)
   ·exact .ifp (by simpa using c2) (bad _ _ _ (.inr hne) ho)
   ·exact .ifn (by simpa using c2) (bad _ _ _ (.inr hne) ho)
  ·refine .ifn (by simpa using c) ?_
   rw [h24]
   exact .ifn (by decide) (bad _ _ _ (.inr hne) ho)
 | some l =>
  have e0 : e = 0 := he.2 rfl
  have es : s = bA l := hl l rfl
  have ebl : bl s = l := by rw [es]; rfl
  rw [ebl] at r2
  cases hq : lebQ 9 true l with
  | none =>
   rw [hq] at r2
   have ho : opS most (some l) = (0, none) := by simp [opS, pS, hq]
   refine .ifn (by simpa using r2) ?_
   rw [h24]
   exact .ifn (by decide) (bad _ _ _ (.inl r2) ho)
  | some p =>
   obtain ⟨n, m⟩ := p
   rw [hq] at r2
   obtain ⟨lg, q1, q2, q3⟩ := r2
   rw [q2]
   refine .ifp rfl ?_
   rw [h24]
   by_cases c2 : most < n
   ·have ho : opS most (some l) = (0, none) := by simp [opS, pS, hq, c2]
    exact .ifp (by simp; omega) (bad _ _ _ (.inl (by decide)) ho)
   ·have ho : opS most (some l) = (n, some m) := by simp [opS, pS, hq, c2]
    refine .ifn (by simp; omega) ?_
    rw [h9, ho]
    refine .call (fail_spec D 0 g) fun z ⟨z1, z2⟩ => .bnd rfl (.bnd (sldI_at (o := 0 + 1) z1 rfl) (.ifn (by simp [e0]) (.bnd rfl (.bnd (show ldS ⟨rb, 0 + 0, none⟩ z.2 = some s by simp [ldS, AHeap.rd1, z1, decS]) ?_))))
    have esub : Gx.subS s (some (lg : Int)) none = some (bA m) := by
     have := subS_of (s := s) (lo := some (lg : Int)) (hi := none) (i := lg) (j := s.size) rfl rfl q1 (Nat.le_refl _)
     rw [this, ebl, q3, List.take_of_length_le (by rw [← ebl]; exact Nat.le_refl _)]
     rfl
    refine .bnd esub (.bnd rfl (.bnd (st1_of (o := 0 + 0) z1 (by simp) rfl) (.of ⟨rfl, PRd.ok ?_ ?_, Chg.trans z2 (Chg.set (.inr rfl))⟩)))
    ·rw [sset_get, e0]; rfl
    ·have : m.length ≤ s.size := by rw [q3, List.length_drop, ← ebl]; exact Nat.sub_le _ _
     omega
theorem left_spec (D : CallF) {s : ByteArray} {e : Int} (g : H.get rb = some (.cells [.string s, .int .i64 e] 157 true 0)) : num_Reader_Left k D (some ⟨rb, 0, none⟩) H = some ((s.size : Int), H) := by
 simp only [num_Reader_Left]
 exact bnd rfl (bnd (show ldS ⟨rb, 0 + 0, none⟩ H = some s by simp [ldS, AHeap.rd1, g, decS]) rfl)
theorem err_spec (D : CallF) {s : ByteArray} {e : Int} (g : H.get rb = some (.cells [.string s, .int .i64 e] 157 true 0)) : num_Reader_Err k D (some ⟨rb, 0, none⟩) H = some (e, H) := by
 simp only [num_Reader_Err]
 exact bnd rfl (bnd (sldI_at (o := 0 + 1) g rfl) rfl)
theorem rbytes_spec (D : CallF) (P : PRd H rb st) (n : Nat) :
  Gx.Wp (num_Reader_Bytes k D (some ⟨rb, 0, none⟩) (n : Int) H) fun z => z.1 = (opB n st).1 ∧ PRd z.2 rb (opB n st).2 ∧ Chg (· = rb) H z.2 := by
 obtain ⟨s, e, g, hsz, he, hl⟩ := P
 simp only [num_Reader_Bytes]
 refine Gx.Wp.jn fun j4 h4 => .ifn (by simp) (.bnd (left_spec D g) ?_)
 have lds : ∀ {H : AHeap} {s : ByteArray} {e : Int}, H.get rb = some (.cells [.string s, .int .i64 e] 157 true 0) → ldS ⟨rb, 0 + 0, none⟩ H = some s := fun g => by simp [ldS, AHeap.rd1, g, decS]
 by_cases c : s.size < n
 ·have ho : opB n st = (⟨#[]⟩, none) := by
   cases st with
   | none => rfl
   | some l =>
    have es : s = bA l := hl l rfl
    have : ¬ n ≤ l.length := by rw [es, bA_size] at c; omega
    simp [opB, this]
  rw [ho]
  refine .ifp (by simp; omega) (.call (fail_spec D 10 g) fun z ⟨z1, z2⟩ => ?_)
  rw [h4]
  have hne2 : (if e = 0 then (10 : Int) else e) ≠ 0 := by
   by_cases c : e = 0
   ·rw [if_pos c]; decide
   ·rw [if_neg c]; exact c
  exact .bnd rfl (.bnd (sldI_at (o := 0 + 1) z1 rfl) (.ifp (by simpa using hne2) (.of ⟨rfl, PRd.bad z1 hsz hne2, z2⟩)))
 ·refine .ifn (by simp; omega) ?_
  rw [h4]
  refine .bnd rfl (.bnd (sldI_at (o := 0 + 1) g rfl) ?_)
  cases st with
  | none =>
   have hne : e ≠ 0 := fun q => by simpa using he.1 q
   exact .ifp (by simpa using hne) (.of ⟨rfl, PRd.bad g hsz hne, .refl _ _⟩)
  | some l =>
   have e0 : e = 0 := he.2 rfl
   have es : s = bA l := hl l rfl
   have ebl : bl s = l := by rw [es]; rfl
   have hle : n ≤ l.length := by rw [es, bA_size] at c; omega
   have hll : l.length = s.size := by rw [es, bA_size]
   rw [opB_some hle]
   have s1 := subS_of (s := s) (lo := none) (hi := some (n : Int)) (i := 0) (j := n) rfl rfl (Nat.zero_le _) (by omega)
   have s2 := subS_of (s := s) (lo := some (n : Int)) (hi := none) (i := n) (j := s.size) rfl rfl (by omega) (Nat.le_refl _)
   rw [ebl, List.drop_zero] at s1
   rw [ebl, List.take_of_length_le (by omega)] at s2
   refine .ifn (by simp [e0]) (.bnd rfl (.bnd (lds g) (.bnd s1 (.bnd rfl (.bnd (lds g) (.bnd s2 (.bnd rfl (.bnd (st1_of (o := 0 + 0) g (by simp) rfl) (.of ⟨rfl, PRd.ok ?_ ?_, Chg.set (.inr rfl)⟩)))))))))
   ·rw [sset_get, e0]; rfl
   ·rw [List.length_drop]; omega
theorem rfixed_spec (D : CallF) (hk : 20 ≤ k) (hr : rb < H.next) (P : PRd H rb st) :
  Gx.Wp (num_Reader_Fixed k D (some ⟨rb, 0, none⟩) 1 H) fun z => z.1 = ((opF st).1 : Int) ∧ PRd z.2 rb (opF st).2 ∧ Chg (· = rb) H z.2 := by
 simp only [num_Reader_Fixed]
 refine Gx.Wp.jn fun j4 h4 => Gx.Wp.jn fun j23 h23 => .ifn (by decide) ?_
 rw [h23]
 refine .ifn (by decide) ?_
 rw [h4]
 refine Gx.Wp.jn fun j7 h7 => .call (rbytes_spec D P 1) fun r ⟨q1, q2, q3⟩ => ?_
 have nx := q3.nx
 rw [q1]
 obtain ⟨x, hx⟩ : ∃ x, x = (opB 1 st).1 := ⟨_, rfl⟩
 rw [← hx]
 obtain ⟨h9, e9⟩ : ∃ h9, h9 = AHeap.new r.2 (.cells (bytesL x) 5 true 18446744073709551616) := ⟨_, rfl⟩
 rw [← e9]
 have k9 : Keeps r.2 h9 := by rw [e9]; exact Keeps.new _ _
 have g9 : h9.get r.2.next = some (.cells (bytesL x) 5 true 18446744073709551616) := by rw [e9]; simp
 have P9 := q2.keeps (by omega) k9
 have c9 : Chg (· = rb) H h9 := Chg.trans q3 (Chg.keeps k9)
 unfold num_Reader_Fixed_l0
 have ho : (x = ⟨#[]⟩ ∧ opF st = (0, none) ∧ (opB 1 st).2 = none) ∨ ∃ c l, x = bA [c] ∧ opF st = (c.toNat, some l) ∧ (opB 1 st).2 = some l := by
  cases st with
  | none => exact .inl ⟨by rw [hx]; rfl, rfl, rfl⟩
  | some l =>
   cases l with
   | nil => exact .inl ⟨by rw [hx]; simp [opB], rfl, by simp [opB]⟩
   | cons c l => exact .inr ⟨c, l, by rw [hx, opB_some (by simp)]; rfl, rfl, by rw [opB_some (by simp)]; rfl⟩
 rcases ho with ⟨e1, e2, e3⟩ | ⟨c, l, e1, e2, e3⟩
 ·rw [e2, ← e3]
  obtain ⟨bot, eb⟩ := iterK_of (fun _ _ _ _ _ => none) (num_Reader_Fixed_l0b k D j7) (show 0 + 1 ≤ k by omega)
  rw [eb, iterK_s]; simp only [num_Reader_Fixed_l0b]
  refine .ifn (by rw [e1]; decide) ?_
  rw [h7]
  exact .of ⟨rfl, P9, c9⟩
 ·rw [e2, ← e3]
  obtain ⟨bot, eb⟩ := iterK_of (fun _ _ _ _ _ => none) (num_Reader_Fixed_l0b k D j7) (show 1 + 1 ≤ k by omega)
  have esz : x.size = 1 := by rw [e1]; rfl
  have hc := c.toNat_lt
  rw [eb, iterK_s]; simp only [num_Reader_Fixed_l0b]
  rw [esz]
  have ei : Gx.idxL 1 ⟨some ⟨r.2.next, 0, some 2⟩, 1, 1⟩ 0 = some ⟨r.2.next, 0, none⟩ := rfl
  have g9' : h9.get r.2.next = some (.cells [.int .u8 (c.toNat : Int)] 5 true 18446744073709551616) := by rw [g9, e1]; rfl
  refine .ifp (by decide) (.bnd ei (.bnd (sldI_at g9' rfl) ?_))
  have eo : Go.bits .or .i64 (IntKind.wrap .i64 (0 * 256)) (IntKind.wrap .i64 (c.toNat : Int)) = (c.toNat : Int) := by
   rw [Gx.w64 (0 * 256) (by decide), Gx.w64 _ (by omega)]
   have hw : ∀ z : Int, 0 ≤ z → z < 2 ^ 63 → IntKind.wrap .i64 z = z := fun z h0 h1 => Gx.w64 z (by omega)
   have := (bits_nat .i64 63 (by decide) hw 0 c.toNat (by decide) (by omega)).2
   simpa using this
  rw [eo, show IntKind.wrap .i64 (0 + 1) = 1 from rfl, iterK_s]
  simp only [num_Reader_Fixed_l0b]
  refine .ifn (by decide) ?_
  rw [h7]
  exact .of ⟨rfl, P9, c9⟩
theorem rend_spec (D : CallF) (P : PRd H rb st) : Gx.Wp (num_Reader_End k D (some ⟨rb, 0, none⟩) H) fun z => (z.1 = 0 ↔ st = some []) ∧ Chg (· = rb) H z.2 := by
 obtain ⟨s, e, g, hsz, he, hl⟩ := P
 simp only [num_Reader_End]
 refine Gx.Wp.jn fun j3 h3 => .bnd (left_spec D g) ?_
 by_cases c : 0 < s.size
 ·refine .ifp (by simpa using c) (.call (fail_spec D 3 g) fun z ⟨z1, z2⟩ => ?_)
  rw [h3]
  refine .bnd rfl (.bnd (sldI_at (o := 0 + 1) z1 rfl) (.of ⟨⟨fun q => ?_, fun q => ?_⟩, z2⟩))
  ·dsimp only at q
   by_cases c : e = 0
   ·rw [if_pos c] at q; cases q
   ·rw [if_neg c] at q; exact absurd q c
  ·have := hl [] q
   rw [this] at c; exact absurd c (by decide)
 ·refine .ifn (by simpa using c) ?_
  rw [h3]
  refine .bnd rfl (.bnd (sldI_at (o := 0 + 1) g rfl) (.of ⟨⟨fun q => ?_, fun q => ?_⟩, .refl _ _⟩))
  ·cases st with
   | none => simpa using he.1 q
   | some l =>
    have es := hl l rfl
    rw [es, bA_size] at c
    have : l = [] := List.length_eq_zero_iff.1 (by omega)
    rw [this]
  ·exact he.2 (by rw [q]; rfl)
end
end Ge
namespace Ge
open Go Gx
section
variable {k rb : Nat} {h H H' : AHeap} {st : Rd}
theorem chgB {rb b : Nat} {h H H' : AHeap} (a : Chg (· = rb) h H) (c : Chg (· = b) H H') (hb : h.next ≤ b) : Chg (· = rb) h H' := Chg.beh a c fun y hy e => by omega
end
end Ge
namespace Ge
open Go Gx
section
variable {k rb : Nat} {h H H' : AHeap} {st : Rd}
end
end Ge
namespace Ge
open Go Gx
section
variable {k base bb : Nat} {H : AHeap} {s : Slc} {l : List UInt8}
end
end Ge
namespace Ge
open Go Gx
section
variable {k base bb : Nat} {H : AHeap} {s : Slc} {l : List UInt8}
end
end Ge
namespace Ge
open Go Gx
section
variable {k : Nat}
end
end Ge
namespace Ge
open Go Gx
def RRd (H : AHeap) (rb : Nat) (st : Rd) : Prop := ∃ (S : ByteArray) (a : Nat) (e : Int), H.get rb = some (.cells [.string S, .int .i64 (a : Int), .int .i64 e] 86 true 0) ∧ S.size ≤ 1000000 ∧ a ≤ S.size ∧ (e = 0 ↔ st.isSome = true) ∧ ∀ l, st = some l → l = (bl S).drop a
section
variable {k rb : Nat} {H H' : AHeap} {st : Rd}
theorem RRd.chg {S : Nat → Prop} (P : RRd H rb st) (hr : rb < H.next) (c : Chg S H H') (hs : ¬ S rb) : RRd H' rb st := by
 obtain ⟨s, a, e, h1, h2⟩ := P
 exact ⟨s, a, e, c.got hr hs h1, h2⟩
theorem RRd.keeps (P : RRd H rb st) (hr : rb < H.next) (c : Keeps H H') : RRd H' rb st := P.chg hr c fun f => f
theorem RRd.ok {S : ByteArray} {a : Nat} (g : H.get rb = some (.cells [.string S, .int .i64 (a : Int), .int .i64 0] 86 true 0)) (hl : S.size ≤ 1000000) (ha : a ≤ S.size) : RRd H rb (some ((bl S).drop a)) := ⟨S, a, 0, g, hl, ha, by simp, fun l' h => by cases h; rfl⟩
theorem RRd.bad {S : ByteArray} {a : Nat} {e : Int} (g : H.get rb = some (.cells [.string S, .int .i64 (a : Int), .int .i64 e] 86 true 0)) (hl : S.size ≤ 1000000) (ha : a ≤ S.size) (he : e ≠ 0) : RRd H rb none := ⟨S, a, e, g, hl, ha, by simpa using he, fun l h => by cases h⟩
section
variable {S : ByteArray} {a : Nat} {e : Int}
end
end
end Ge
namespace Ge
open Go Gx
def RRx (S : ByteArray) (H : AHeap) (rb : Nat) (st : Rd) : Prop := ∃ (a : Nat) (e : Int), H.get rb = some (.cells [.string S, .int .i64 (a : Int), .int .i64 e] 86 true 0) ∧ S.size ≤ 9000000000000000000 ∧ a ≤ S.size ∧ (e = 0 ↔ st.isSome = true) ∧ ∀ l, st = some l → l = (bl S).drop a
section
variable {k rb : Nat} {H H' : AHeap} {st : Rd} {S : ByteArray}
theorem RRx.ok {a : Nat} (g : H.get rb = some (.cells [.string S, .int .i64 (a : Int), .int .i64 0] 86 true 0)) (hl : S.size ≤ 9000000000000000000) (ha : a ≤ S.size) : RRx S H rb (some ((bl S).drop a)) := ⟨a, 0, g, hl, ha, by simp, fun l' h => by cases h; rfl⟩
theorem RRx.bad {a : Nat} {e : Int} (g : H.get rb = some (.cells [.string S, .int .i64 (a : Int), .int .i64 e] 86 true 0)) (hl : S.size ≤ 9000000000000000000) (ha : a ≤ S.size) (he : e ≠ 0) : RRx S H rb none := ⟨a, e, g, hl, ha, by simpa using he, fun l h => by cases h⟩
end
end Ge
namespace Ge
open Go Gx
abbrev Sq := List UInt8 × Nat × Nat
def goOn : Nat → List UInt8 → Option (Nat × List UInt8)
 | _, [] => none
 | n, c :: t => if c.toNat < 255 then some (n + c.toNat, t) else goOn (n + c.toNat) t
def numP (n : Nat) (l : List UInt8) : Option (Nat × List UInt8) := if n < 15 then some (n, l) else goOn n l
def parseP : Nat → List UInt8 → Nat → Option (List Sq × Nat)
 | 0, _, _ => none
 | _ + 1, [], _ => none
 | f + 1, tok :: l, long =>
  match numP (tok.toNat / 16) l with
  | none => none
  | some (a, l1) =>
   if l1.length < a then none
   else if l1.length = a then if tok.toNat % 16 = 0 then some ([(l1, 0, 0)], long + a) else none
   else match l1.drop a with
    | d0 :: d1 :: l2 => match numP (tok.toNat % 16) l2 with
     | none => none
     | some (b, l3) =>
      if d0.toNat + d1.toNat * 256 = 0 ∨ long + a < d0.toNat + d1.toNat * 256 then none
      else (parseP f l3 (long + a + (b + 4))).map fun p => ((l1.take a, d0.toNat + d1.toNat * 256, b + 4) :: p.1, p.2)
    | _ => none
def numB (n : Nat) : List UInt8 := if n < 15 then [] else List.replicate ((n - 15) / 255) 255 ++ [UInt8.ofNat ((n - 15) % 255)]
def tokB (a d n : Nat) : UInt8 := UInt8.ofNat (min a 15 * 16 + if 0 < d then min (n - 4) 15 else 0)
def seqB (l : List UInt8) (d n : Nat) : List UInt8 := tokB l.length d n :: numB l.length ++ l ++ if 0 < d then UInt8.ofNat (d % 256) :: UInt8.ofNat (d / 256) :: numB (n - 4) else []
theorem goOn_len : ∀ {l : List UInt8} {n m : Nat} {t : List UInt8}, goOn n l = some (m, t) → n ≤ m ∧ ∃ p, l = p ++ t ∧ p ≠ [] ∧ m ≤ n + 255 * p.length
 | [], n, m, t, h => by simp [goOn] at h
 | c :: l, n, m, t, h => by
  have hc := c.toNat_lt
  unfold goOn at h
  split at h
  ·simp only [Option.some.injEq, Prod.mk.injEq] at h
   obtain ⟨rfl, rfl⟩ := h
   exact ⟨by omega, [c], rfl, by simp, by simp; omega⟩
  ·obtain ⟨h1, p, h2, h3, h4⟩ := goOn_len h
   refine ⟨by omega, c :: p, by simp [h2], by simp, ?_⟩
   simp only [List.length_cons]; omega
theorem numP_len {l t : List UInt8} {n m : Nat} (h : numP n l = some (m, t)) : n ≤ m ∧ ∃ p, l = p ++ t ∧ m ≤ n + 255 * p.length := by
 unfold numP at h
 split at h
 ·simp only [Option.some.injEq, Prod.mk.injEq] at h
  obtain ⟨rfl, rfl⟩ := h
  exact ⟨Nat.le_refl _, [], rfl, by omega⟩
 ·obtain ⟨h1, p, h2, _, h4⟩ := goOn_len h
  exact ⟨h1, p, h2, h4⟩
theorem numP_sub {l t : List UInt8} {n m : Nat} (h : numP n l = some (m, t)) : t.length ≤ l.length := by
 obtain ⟨_, p, rfl, _⟩ := numP_len h
 simp
theorem parse_fuel : ∀ {f : Nat} {l : List UInt8} {long : Nat}, l.length < f → ∀ {g : Nat}, l.length < g → parseP f l long = parseP g l long
 | 0, l, _, h, _, _ => by omega
 | f + 1, [], _, _, g, hg => by
  obtain ⟨g, rfl⟩ : ∃ m, g = m + 1 := ⟨g - 1, by omega⟩
  rfl
 | f + 1, tok :: l, long, h, g, hg => by
  obtain ⟨g, rfl⟩ : ∃ m, g = m + 1 := ⟨g - 1, by simp at hg; omega⟩
  simp only [List.length_cons] at h hg
  unfold parseP
  split
  ·rfl
  ·rename_i a l1 ha
   have s1 := numP_sub ha
   split
   ·rfl
   ·split
    ·rfl
    ·split
     ·rename_i d0 d1 l2 he
      have s2 : l2.length + 2 ≤ l1.length := by
       have := congrArg List.length he
       simp at this; omega
      split
      ·rfl
      ·rename_i b l3 hb
       have s3 := numP_sub hb
       split
       ·rfl
       ·rw [parse_fuel (f := f) (g := g) (by omega) (by omega)]
     ·rfl
theorem parse_long : ∀ {f : Nat} {l : List UInt8} {long : Nat} {qs : List Sq} {n : Nat}, parseP f l long = some (qs, n) → long ≤ n ∧ n ≤ long + 255 * l.length
 | 0, l, _, _, _, h => by simp [parseP] at h
 | f + 1, [], _, _, _, h => by simp [parseP] at h
 | f + 1, tok :: l, long, qs, n, h => by
  have ht := tok.toNat_lt
  unfold parseP at h
  split at h
  ·cases h
  ·rename_i a l1 ha
   obtain ⟨k1, p, rfl, k2⟩ := numP_len ha
   split at h
   ·cases h
   ·split at h
    ·split at h
     ·simp only [Option.some.injEq, Prod.mk.injEq] at h
      obtain ⟨rfl, rfl⟩ := h
      simp only [List.length_cons, List.length_append]
      omega
     ·cases h
    ·split at h
     ·rename_i d0 d1 l2 he
      have s2 : l2.length + 2 + a = l1.length := by
       have := congrArg List.length he
       simp at this; omega
      split at h
      ·cases h
      ·rename_i b l3 hb
       obtain ⟨k3, p2, e2, k4⟩ := numP_len hb
       split at h
       ·cases h
       ·cases hp : parseP f l3 (long + a + (b + 4)) with
        | none => rw [hp] at h; cases h
        | some q =>
         rw [hp] at h
         simp only [Option.map_some, Option.some.injEq, Prod.mk.injEq] at h
         obtain ⟨rfl, rfl⟩ := h
         obtain ⟨g1, g2⟩ := parse_long (qs := q.1) (n := q.2) hp
         have e3 := congrArg List.length e2
         simp only [List.length_append] at e3
         simp only [List.length_cons, List.length_append]
         constructor
         ·omega
         ·have : tok.toNat / 16 + tok.toNat % 16 ≤ 30 := by omega
          have : 255 * (p.length + l1.length + 1) = 255 * p.length + 255 * l1.length + 255 := by omega
          omega
     ·cases h
theorem goOn_write (r : List UInt8) (c : Nat) (hc : c < 255) : ∀ (k n : Nat), goOn n (List.replicate k 255 ++ [UInt8.ofNat c] ++ r) = some (n + 255 * k + c, r)
 | 0, n => by
  have e : (UInt8.ofNat c).toNat = c := by rw [UInt8.toNat_ofNat']; omega
  simp only [List.replicate_zero, List.nil_append, List.singleton_append]
  unfold goOn
  rw [e, if_pos hc]; rfl
 | k + 1, n => by
  rw [List.replicate_succ]
  simp only [List.cons_append]
  unfold goOn
  rw [if_neg (by decide)]
  have := goOn_write r c hc k (n + (255 : UInt8).toNat)
  simp only [List.append_assoc] at this ⊢
  rw [this]
  congr 2
  show n + 255 + 255 * k + c = _
  omega
theorem numP_write (n : Nat) (r : List UInt8) : numP (min n 15) (numB n ++ r) = some (n, r) := by
 unfold numP numB
 by_cases c : n < 15
 ·rw [if_pos (by omega), if_pos c, Nat.min_eq_left (by omega)]; rfl
 ·rw [if_neg (by omega), if_neg c, Nat.min_eq_right (by omega), goOn_write r _ (Nat.mod_lt _ (by decide))]
  congr 2
  omega
theorem tok_hi (a d n : Nat) : (tokB a d n).toNat / 16 = min a 15 := by
 unfold tokB
 rw [UInt8.toNat_ofNat']
 split <;> omega
theorem tok_lo {d : Nat} (a n : Nat) (hd : 0 < d) : (tokB a d n).toNat % 16 = min (n - 4) 15 := by
 unfold tokB
 rw [UInt8.toNat_ofNat', if_pos hd]
 omega
theorem tok_no (a n : Nat) : (tokB a 0 n).toNat % 16 = 0 := by
 unfold tokB
 rw [UInt8.toNat_ofNat', if_neg (by omega)]
 omega
theorem parse_seq {f : Nat} {l r : List UInt8} {d n long : Nat} (hd : 0 < d) (hd2 : d ≤ 65535) (hl : d ≤ long + l.length) (hn : 4 ≤ n) :
  parseP (f + 1) (seqB l d n ++ r) long = (parseP f r (long + l.length + n)).map fun p => ((l, d, n) :: p.1, p.2) := by
 have e0 : (UInt8.ofNat (d % 256)).toNat = d % 256 := by rw [UInt8.toNat_ofNat']; omega
 have e1 : (UInt8.ofNat (d / 256)).toNat = d / 256 := by rw [UInt8.toNat_ofNat']; omega
 unfold seqB
 rw [if_pos hd]
 simp only [List.cons_append, List.append_assoc]
 conv => lhs; unfold parseP
 rw [tok_hi, numP_write]
 simp only []
 rw [if_neg (by simp), if_neg (by simp), List.drop_left, tok_lo _ _ hd]
 simp only []
 rw [numP_write]
 simp only []
 rw [e0, e1, show d % 256 + d / 256 * 256 = d by omega, if_neg (by omega), show n - 4 + 4 = n by omega, List.take_left]
theorem parse_last {f : Nat} {l : List UInt8} {long : Nat} : parseP (f + 1) (seqB l 0 0) long = some ([(l, 0, 0)], long + l.length) := by
 unfold seqB
 rw [if_neg (by omega), List.append_nil, List.cons_append]
 unfold parseP
 rw [tok_hi, numP_write]
 simp only []
 rw [if_neg (by omega), if_pos trivial, if_pos (tok_no _ _)]
end Ge
namespace Ge
open Go Gx
def repP (d : Nat) : Nat → List UInt8 → List UInt8
 | 0, out => out
 | n + 1, out => repP d n (out ++ [out[out.length - d]?.getD 0])
def openP : List Sq → List UInt8 → List UInt8
 | [], out => out
 | q :: qs, out => openP qs (repP q.2.1 q.2.2 (out ++ q.1))
def totQ : List Sq → Nat
 | [] => 0
 | q :: qs => q.1.length + q.2.2 + totQ qs
def okQ : List Sq → Nat → Prop
 | [], _ => True
 | q :: qs, long => (q.2.2 = 0 ∨ 0 < q.2.1 ∧ q.2.1 ≤ long + q.1.length) ∧ okQ qs (long + q.1.length + q.2.2)
theorem repP_len (d : Nat) : ∀ (n : Nat) (out : List UInt8), (repP d n out).length = out.length + n
 | 0, out => rfl
 | n + 1, out => by rw [repP, repP_len d n]; simp; omega
theorem openP_len : ∀ (qs : List Sq) (out : List UInt8), (openP qs out).length = out.length + totQ qs
 | [], out => by simp [openP, totQ]
 | q :: qs, out => by rw [openP, openP_len qs, repP_len, totQ, List.length_append]; omega
theorem openP_app : ∀ (qs rs : List Sq) (out : List UInt8), openP (qs ++ rs) out = openP rs (openP qs out)
 | [], rs, out => rfl
 | q :: qs, rs, out => by rw [List.cons_append, openP, openP, openP_app qs rs]
theorem repP_add (d : Nat) : ∀ (a b : Nat) (out : List UInt8), repP d (a + b) out = repP d b (repP d a out)
 | 0, b, out => by rw [Nat.zero_add]; rfl
 | a + 1, b, out => by rw [show a + 1 + b = (a + b) + 1 by omega, repP, repP_add d a b]; rfl
theorem repP_few (d : Nat) : ∀ (n : Nat) (out : List UInt8), n ≤ d → d ≤ out.length → repP d n out = out ++ (out.drop (out.length - d)).take n
 | 0, out, _, _ => by simp [repP]
 | n + 1, out, hn, hd => by
  rw [Nat.add_comm, repP_add, repP_few d n _ (by omega) (by simp [repP]; omega)]
  simp only [repP]
  obtain ⟨x, hx⟩ := isome (l := out) (i := out.length - d) (by omega)
  rw [hx, Option.getD_some, List.append_assoc, List.length_append, dropc hx, Nat.add_comm 1 n, List.take_succ_cons, List.drop_append_of_le_length (by simp; omega)]
  congr 1
  show x :: ((out.drop (out.length + [x].length - d)) ++ [x]).take n = _
  rw [show out.length + [x].length - d = out.length - d + 1 by simp; omega, List.take_append_of_le_length (by simp; omega)]
theorem repP_copy {s : List UInt8} {d : Nat} : ∀ (n at' : Nat), 0 < d → d ≤ at' → at' + n ≤ s.length → (∀ i, i < n → s[at' + i]? = s[at' - d + i]?) → repP d n (s.take at') = s.take (at' + n)
 | 0, at', _, _, _, _ => rfl
 | n + 1, at', h0, hd, hl, hs => by
  rw [repP]
  have e : (s.take at').length = at' := by simp; omega
  have g := hs 0 (by omega)
  rw [Nat.add_zero, Nat.add_zero] at g
  obtain ⟨x, hx⟩ := isome (l := s) (i := at') (by omega)
  rw [e, List.getElem?_take, if_pos (by omega), ← g, hx, Option.getD_some]
  have e2 : s.take at' ++ [x] = s.take (at' + 1) := by rw [List.take_add_one, hx]; rfl
  rw [e2, repP_copy n (at' + 1) h0 (by omega) (by omega) fun i hi => by
   have := hs (i + 1) (by omega)
   rw [show at' + 1 + i = at' + (i + 1) by omega, show at' + 1 - d + i = at' - d + (i + 1) by omega]; exact this]
  congr 1; omega
theorem parse_tot : ∀ {f : Nat} {l : List UInt8} {long : Nat} {qs : List Sq} {n : Nat}, parseP f l long = some (qs, n) → n = long + totQ qs ∧ okQ qs long
 | 0, l, _, _, _, h => by simp [parseP] at h
 | f + 1, [], _, _, _, h => by simp [parseP] at h
 | f + 1, tok :: l, long, qs, n, h => by
  unfold parseP at h
  split at h
  ·cases h
  ·rename_i a l1 ha
   split at h
   ·cases h
   ·split at h
    ·split at h
     ·simp only [Option.some.injEq, Prod.mk.injEq] at h
      obtain ⟨rfl, rfl⟩ := h
      rename_i c1 _
      simp [totQ, okQ, c1]
     ·cases h
    ·split at h
     ·rename_i d0 d1 l2 he
      split at h
      ·cases h
      ·rename_i b l3 hb
       split at h
       ·cases h
       ·rename_i cd
        cases hp : parseP f l3 (long + a + (b + 4)) with
        | none => rw [hp] at h; cases h
        | some q =>
         rw [hp] at h
         simp only [Option.map_some, Option.some.injEq, Prod.mk.injEq] at h
         obtain ⟨rfl, rfl⟩ := h
         obtain ⟨g1, g2⟩ := parse_tot (qs := q.1) (n := q.2) hp
         have e1 : (l1.take a).length = a := by rw [List.length_take]; omega
         refine ⟨by rw [totQ]; simp only [e1]; omega, .inr ⟨by show 0 < d0.toNat + d1.toNat * 256; omega, by show d0.toNat + d1.toNat * 256 ≤ long + (l1.take a).length; omega⟩, ?_⟩
         show okQ q.1 (long + (l1.take a).length + (b + 4))
         rw [e1]; exact g2
     ·cases h
theorem parse_more : ∀ {f g : Nat} {l : List UInt8} {long : Nat} {x}, f ≤ g → parseP f l long = some x → parseP g l long = some x
 | 0, _, l, _, _, _, h => by simp [parseP] at h
 | f + 1, g, [], _, _, _, h => by simp [parseP] at h
 | f + 1, g, tok :: l, long, x, hg, h => by
  obtain ⟨g, rfl⟩ : ∃ m, g = m + 1 := ⟨g - 1, by omega⟩
  unfold parseP at h ⊢
  split at h
  ·cases h
  ·rename_i a l1 ha
   split at h
   ·cases h
   ·rename_i c0
    rw [if_neg c0]
    split at h
    ·rename_i c1
     rw [if_pos c1]; exact h
    ·rename_i c1
     rw [if_neg c1]
     split at h
     ·rename_i d0 d1 l2 he
      split at h
      ·cases h
      ·rename_i b l3 hb
       split at h
       ·cases h
       ·rename_i cd
        rw [if_neg cd]
        cases hp : parseP f l3 (long + a + (b + 4)) with
        | none => rw [hp] at h; cases h
        | some q =>
         rw [hp] at h
         rw [parse_more (f := f) (g := g) (by omega) hp]; exact h
     ·cases h
def unz (l : List UInt8) : Option (List Sq × Nat) := parseP (l.length + 1) l 0
def unpB (l : List UInt8) (long : Int) : Option (List UInt8) := match unz l with
 | some (qs, n) => if long = n ∧ long ≤ 1048576 then some (openP qs []) else none
 | none => none
theorem unpB_len {l r : List UInt8} {long : Int} (h : unpB l long = some r) : (r.length : Int) = long ∧ long ≤ 1048576 := by
 unfold unpB at h
 split at h
 ·rename_i qs n e
  split at h
  ·rename_i c
   obtain rfl := Option.some.inj h
   have := (parse_tot (qs := qs) (n := n) e).1
   rw [openP_len]
   simp; omega
  ·cases h
 ·cases h
def lcp : List UInt8 → List UInt8 → Nat
 | a :: x, b :: y => if a = b then lcp x y + 1 else 0
 | _, _ => 0
theorem lcp_eq : ∀ {x y : List UInt8} {i : Nat}, i < lcp x y → x[i]? = y[i]? ∧ i < y.length
 | [], y, i, h => by simp [lcp] at h
 | a :: x, [], i, h => by simp [lcp] at h
 | a :: x, b :: y, i, h => by
  unfold lcp at h
  split at h
  ·rename_i c
   cases i with
   | zero => subst c; simp
   | succ i => obtain ⟨g1, g2⟩ := lcp_eq (x := x) (y := y) (i := i) (by omega); simpa using ⟨g1, g2⟩
  ·omega
abbrev Fr := List UInt8 × Nat × Nat
def four (s : List UInt8) (i : Nat) : List UInt8 := (s.drop i).take 4
def bestA (s : List UInt8) (i : Nat) : Nat → Nat × Nat
 | 0 => (0, 0)
 | n + 1 => if (bestA s i n).2 < lcp (s.drop (i - (n + 1))) (s.drop i) then (n + 1, lcp (s.drop (i - (n + 1))) (s.drop i)) else bestA s i n
def bestF (s : List UInt8) (i : Nat) (es : List Fr) : Nat × Nat :=
 match lkM (four s i) es with
 | some v => if i - v ≤ 65535 ∧ (bestA s i (min 64 i)).2 < lcp (s.drop v) (s.drop i) then (i - v, lcp (s.drop v) (s.drop i)) else bestA s i (min 64 i)
 | none => bestA s i (min 64 i)
def put1 (s : List UInt8) (i : Nat) (es : List Fr) : List Fr := if i + 4 ≤ s.length then ptM (four s i) i es.length es else es
def putN (s : List UInt8) : Nat → Nat → List Fr → List Fr
 | 0, _, es => es
 | n + 1, i, es => putN s n (i + 1) (put1 s i es)
def packL (s : List UInt8) : Nat → Nat → Nat → List Fr → List UInt8 → List UInt8
 | 0, _, _, _, out => out
 | f + 1, i, kept, es, out =>
  if i + 4 < s.length then
   if 4 ≤ min (bestF s i es).2 (s.length - 1 - i) then
    packL s f (i + min (bestF s i es).2 (s.length - 1 - i)) (i + min (bestF s i es).2 (s.length - 1 - i)) (putN s (min (bestF s i es).2 (s.length - 1 - i)) i es)
     (out ++ seqB ((s.take i).drop kept) (bestF s i es).1 (min (bestF s i es).2 (s.length - 1 - i)))
   else packL s f (i + 1) kept (putN s 1 i es) out
  else out ++ seqB (s.drop kept) 0 0
def packA (s : List UInt8) : List UInt8 := packL s (s.length + 1) 0 0 [] []
theorem bestA_ok (s : List UInt8) (i : Nat) : ∀ n, n ≤ 64 → n ≤ i → (bestA s i n).2 = 0 ∨ (0 < (bestA s i n).1 ∧ (bestA s i n).1 ≤ 65535 ∧ (bestA s i n).1 ≤ i ∧ (bestA s i n).2 = lcp (s.drop (i - (bestA s i n).1)) (s.drop i))
 | 0, _, _ => .inl rfl
 | n + 1, h1, h2 => by
  unfold bestA
  split
  ·exact .inr ⟨by simp, by simp; omega, by simpa using h2, rfl⟩
  ·exact bestA_ok s i n (by omega) (by omega)
def Ahead (i : Nat) (es : List Fr) : Prop := ∀ e ∈ es, e.2.1 < i
theorem put1_ahead {s : List UInt8} {i : Nat} {es : List Fr} (h : Ahead i es) : Ahead (i + 1) (put1 s i es) := by
 intro e he
 unfold put1 at he
 split at he
 ·rcases ptM_mem he with ⟨_, g⟩ | g
  ·omega
  ·have := h e g; omega
 ·have := h e he; omega
theorem putN_ahead {s : List UInt8} : ∀ (n i : Nat) {es : List Fr}, Ahead i es → Ahead (i + n) (putN s n i es)
 | 0, i, es, h => h
 | n + 1, i, es, h => by
  have := putN_ahead (s := s) n (i + 1) (put1_ahead (s := s) h)
  rw [show i + (n + 1) = i + 1 + n by omega]; exact this
theorem bestF_ok {s : List UInt8} {i : Nat} {es : List Fr} (ha : Ahead i es) : (bestF s i es).2 = 0 ∨ (0 < (bestF s i es).1 ∧ (bestF s i es).1 ≤ 65535 ∧ (bestF s i es).1 ≤ i ∧ (bestF s i es).2 = lcp (s.drop (i - (bestF s i es).1)) (s.drop i)) := by
 have b := bestA_ok s i (min 64 i) (by omega) (by omega)
 unfold bestF
 split
 ·rename_i v hv
  obtain ⟨e, he, _, e2⟩ := lkM_mem hv
  have := ha e he
  split
  ·rename_i c
   exact .inr ⟨by simp; omega, c.1, by simp, by simp only []; rw [show i - (i - v) = v by omega]⟩
  ·exact b
 ·exact b
theorem pack_ok {s : List UInt8} : ∀ (f i kept : Nat) (es : List Fr) (out : List UInt8) (qs : List Sq), s.length < i + f → i ≤ s.length → kept ≤ i → (kept < s.length ∨ kept = 0) → kept ≤ s.length → Ahead i es →
  (∀ g r, parseP (g + qs.length) (out ++ r) 0 = (parseP g r kept).map fun p => (qs ++ p.1, p.2)) → openP qs [] = s.take kept →
  ∃ g rs, parseP g (packL s f i kept es out) 0 = some (rs, s.length) ∧ openP rs [] = s
 | 0, i, kept, es, out, qs, hf, hi, hk, _, hl, _, _, _ => by omega
 | f + 1, i, kept, es, out, qs, hf, hi, hk, hkl, hl, ha, hp, ho => by
  unfold packL
  split
  ·rename_i c
   split
   ·rename_i c4
    obtain ⟨m, hm⟩ : ∃ m, m = min (bestF s i es).2 (s.length - 1 - i) := ⟨_, rfl⟩
    rw [← hm] at c4 ⊢
    rcases bestF_ok (s := s) ha with b | ⟨b1, b2, b3, b4⟩
    ·omega
    ·have hsl : ((s.take i).drop kept).length = i - kept := by simp; omega
     refine pack_ok f (i + m) (i + m) _ _ (qs ++ [((s.take i).drop kept, (bestF s i es).1, m)]) (by omega) (by omega) (Nat.le_refl _) (.inl (by omega)) (by omega) (putN_ahead m i ha) (fun g r => ?_) ?_
     ·rw [List.append_assoc, List.length_append, show g + (qs.length + [((s.take i).drop kept, (bestF s i es).1, m)].length) = (g + 1) + qs.length by simp; omega, hp, parse_seq b1 b2 (by rw [hsl]; omega) c4, hsl, show kept + (i - kept) + m = i + m by omega]
      cases parseP g r (i + m) <;> simp
     ·rw [openP_app, ho]
      simp only [openP]
      have e : s.take kept ++ (s.take i).drop kept = s.take i := by
       have : s.take kept = (s.take i).take kept := by rw [List.take_take, Nat.min_eq_left hk]
       rw [this, List.take_append_drop]
      rw [e]
      refine repP_copy m i b1 b3 (by omega) fun j hj => ?_
      have := (lcp_eq (x := s.drop (i - (bestF s i es).1)) (y := s.drop i) (i := j) (by omega)).1
      rw [List.getElem?_drop, List.getElem?_drop] at this
      exact this.symm
   ·exact pack_ok f (i + 1) kept _ _ qs (by omega) (by omega) (by omega) hkl hl (putN_ahead 1 i ha) hp ho
  ·refine ⟨1 + qs.length, qs ++ [(s.drop kept, 0, 0)], ?_, ?_⟩
   ·rw [hp, parse_last]
    simp; omega
   ·rw [openP_app, ho]
    simp [openP, repP]
theorem unz_pack (s : List UInt8) : ∃ qs, unz (packA s) = some (qs, s.length) ∧ openP qs [] = s := by
 obtain ⟨g, rs, h1, h2⟩ := pack_ok (s := s) (s.length + 1) 0 0 [] [] [] (by omega) (by omega) (Nat.le_refl _) (.inr rfl) (by omega) (fun e he => by cases he) (fun g r => by simp) rfl
 refine ⟨rs, ?_, h2⟩
 have := parse_more (g := max g ((packA s).length + 1)) (Nat.le_max_left ..) h1
 unfold unz
 rw [parse_fuel (f := (packA s).length + 1) (g := max g ((packA s).length + 1)) (by omega) (by omega)]
 exact this
end Ge
namespace Ge
open Go Gx
theorem ldS_at {h : AHeap} {b o : Nat} {sp : Option Nat} {c : List Value} {e : TypeId} {r : Bool} {fz : Nat} {m : ByteArray} (hb : h.get b = some (.cells c e r fz)) (hc : c[o]? = some (.string m)) : Gx.ldS ⟨b, o, sp⟩ h = some m := by
 simp [Gx.ldS, AHeap.rd1, hb, hc, decS]
theorem ldB_at {h : AHeap} {b o : Nat} {sp : Option Nat} {c : List Value} {e : TypeId} {r : Bool} {fz : Nat} {m : Bool} (hb : h.get b = some (.cells c e r fz)) (hc : c[o]? = some (.bool m)) : Gx.ldB ⟨b, o, sp⟩ h = some m := by
 simp [Gx.ldB, AHeap.rd1, hb, hc, decB]
theorem ldM_at {h : AHeap} {b o : Nat} {sp : Option Nat} {c : List Value} {e : TypeId} {r : Bool} {fz : Nat} {m : Option Nat} (hb : h.get b = some (.cells c e r fz)) (hc : c[o]? = some (.map m)) : Gx.ldM ⟨b, o, sp⟩ h = some m := by
 simp [Gx.ldM, AHeap.rd1, hb, hc, decM]
structure RL (h : AHeap) (rb : Nat) (s : ByteArray) (p : Nat) (bad : Bool) : Prop where
 g : h.get rb = some (.cells [.string s, .int .i64 (p : Int), .bool bad] 170 true 0)
 lt : rb < h.next
section
variable {k rb p : Nat} {h h' : AHeap} {s : ByteArray} {b : Bool}
theorem RL.chg {S : Nat → Prop} (R : RL h rb s p b) (c : Chg S h h') (hs : ¬ S rb) : RL h' rb s p b := ⟨c.got R.lt hs R.g, Nat.lt_of_lt_of_le R.lt c.nx⟩
theorem RL.keeps (R : RL h rb s p b) (c : Keeps h h') : RL h' rb s p b := R.chg c fun f => f
theorem get_lt {i : Nat} {c : UInt8} (hc : (bl s)[i]? = some c) : i < s.size := by
 have := (List.getElem?_eq_some_iff.1 hc).1
 rw [bl_length] at this; exact this
theorem byte_spec (D : CallF) (R : RL h rb s p b) (hs : s.size ≤ 1000000) (_hp : p ≤ s.size) :
  Gx.Wp (lz_reader_byte k D (some ⟨rb, 0, none⟩) h) fun z => Chg (· = rb) h z.2 ∧ z.2.next = h.next ∧
   match (bl s)[p]? with
   | some c => z.1 = (c.toNat : Int) ∧ RL z.2 rb s (p + 1) b
   | none => z.1 = 0 ∧ RL z.2 rb s p true := by
 simp only [lz_reader_byte]
 refine .bnd rfl (.bnd (sldI_at R.g rfl) (.bnd rfl (.bnd (ldS_at R.g rfl) ?_)))
 cases hc : (bl s)[p]? with
 | none =>
  have : s.size ≤ p := by have := List.getElem?_eq_none_iff.1 hc; rw [bl_length] at this; exact this
  refine .ifp (by simp; omega) (.bnd rfl ?_)
  refine Wp.st R.g (by simp) rfl fun H c n g => .of ⟨c, n, rfl, g, by show rb < H.next; rw [n]; exact R.lt⟩
 | some c =>
  have hlt := get_lt hc
  refine .ifn (by simp; omega) (.bnd rfl (.bnd (sldI_at R.g rfl) (.bnd rfl ?_)))
  rw [Gx.w1 (by omega)]
  refine Wp.st R.g (by simp) rfl fun H c1 n g => ?_
  refine .bnd rfl (.bnd (ldS_at g rfl) (.bnd rfl (.bnd (sldI_at g rfl) ?_)))
  rw [show IntKind.wrap .i64 (((p + 1 : Nat) : Int) - 1) = (p : Int) by rw [Gx.w64 _ (by omega)]; omega]
  have hb := c.toNat_lt
  refine .bnd (idxS_of hc) (.of ⟨c1, n, ?_, g, by show rb < H.next; rw [n]; exact R.lt⟩)
  exact Gx.w64 _ (by omega)
theorem number_spec (D : CallF) (hk : s.size + 2 ≤ k) (R : RL h rb s p false) (hs : s.size ≤ 1000000) (hp : p ≤ s.size) {n : Nat} (hn : n ≤ 1000000) :
  Gx.Wp (lz_reader_number k D (some ⟨rb, 0, none⟩) (n : Int) h) fun z => Chg (· = rb) h z.2 ∧ z.2.next = h.next ∧
   match numP n ((bl s).drop p) with
   | some (m, t) => z.1 = (m : Int) ∧ ∃ q, p ≤ q ∧ q ≤ s.size ∧ t = (bl s).drop q ∧ RL z.2 rb s q false
   | none => ∃ q m : Nat, z.1 = (m : Int) ∧ q ≤ s.size ∧ RL z.2 rb s q true := by
 simp only [lz_reader_number, numP]
 by_cases c : n < 15
 ·rw [if_pos c]
  exact .ifp (by simp; omega) (.of ⟨Chg.refl _ _, rfl, rfl, p, Nat.le_refl _, hp, rfl, R⟩)
 ·rw [if_neg c]
  refine .ifn (by simp; omega) ?_
  unfold lz_reader_number_l0
  obtain ⟨bot, eb⟩ := iterK_of (fun _ _ _ => none) (lz_reader_number_l0b k D) (show (s.size - p) + 1 ≤ k by omega)
  rw [eb]
  have loop : ∀ (d q n : Nat) (H : AHeap), q + d = s.size → n + 255 * d ≤ 256000000 → RL H rb s q false →
    Gx.Wp (iterK bot (d + 1) (lz_reader_number_l0b k D) (some ⟨rb, 0, none⟩) (n : Int) H) fun z => Chg (· = rb) H z.2 ∧ z.2.next = H.next ∧
     match goOn n ((bl s).drop q) with
     | some (m, t) => z.1 = (m : Int) ∧ ∃ q', q ≤ q' ∧ q' ≤ s.size ∧ t = (bl s).drop q' ∧ RL z.2 rb s q' false
     | none => ∃ q' m : Nat, z.1 = (m : Int) ∧ q' ≤ s.size ∧ RL z.2 rb s q' true := fun d => by
   induction d with
   | zero =>
    intro q n H hd hn R
    rw [iterK_s]; simp only [lz_reader_number_l0b]
    refine .call (byte_spec D R hs (by omega)) fun r ⟨c1, n1, h1⟩ => ?_
    have e : (bl s)[q]? = none := List.getElem?_eq_none_iff.2 (by rw [bl_length]; omega)
    rw [e] at h1
    obtain ⟨h1, R1⟩ := h1
    refine Wp.jn fun j hj => ?_
    have e2 : (bl s).drop q = [] := List.drop_of_length_le (by rw [bl_length]; omega)
    rw [e2, h1]
    refine .ifp (by decide) ?_
    rw [hj]
    refine .ifp rfl (.of ⟨c1, n1, q, n, ?_, by omega, R1⟩)
    exact Gx.w64 _ (by omega)
   | succ d ih =>
    intro q n H hd hn R
    rw [iterK_s]; simp only [lz_reader_number_l0b]
    obtain ⟨c, hc⟩ := isome (l := bl s) (i := q) (by rw [bl_length]; omega)
    refine .call (byte_spec D R hs (by omega)) fun r ⟨c1, n1, h1⟩ => ?_
    rw [hc] at h1
    obtain ⟨h1, R1⟩ := h1
    have hcl := c.toNat_lt
    refine Wp.jn fun j hj => ?_
    have ew : IntKind.wrap .i64 ((n : Int) + r.1) = ((n + c.toNat : Nat) : Int) := by rw [h1, Gx.w64 _ (by omega)]; omega
    rw [dropc hc]
    unfold goOn
    rw [ew]
    by_cases c2 : c.toNat < 255
    ·rw [if_pos c2]
     refine .ifp (by simp; omega) ?_
     rw [hj]
     exact .ifp rfl (.of ⟨c1, n1, rfl, q + 1, by omega, by omega, rfl, R1⟩)
    ·rw [if_neg c2]
     refine .ifn (by simp; omega) (.bnd rfl (.bnd (ldB_at R1.g rfl) ?_))
     rw [hj]
     refine .ifn (by decide) (.mono (ih (q + 1) (n + c.toNat) r.2 (by omega) (by omega) R1) fun z ⟨a1, a2, a3⟩ => ⟨c1.trans a1, a2.trans n1, ?_⟩)
     cases hg : goOn (n + c.toNat) ((bl s).drop (q + 1)) with
     | none => rw [hg] at a3; exact a3
     | some x =>
      rw [hg] at a3
      obtain ⟨m, t⟩ := x
      obtain ⟨b1, q', b2, b3, b4, b5⟩ := a3
      exact ⟨b1, q', by omega, b3, b4, b5⟩
  exact loop (s.size - p) p n h (by omega) (by omega) R
end
end Ge
namespace Ge
open Go Gx
section
variable {f a b long : Nat} {tok d0 d1 : UInt8} {l l1 l2 l3 : List UInt8}
theorem pq_num (h : numP (tok.toNat / 16) l = none) : parseP (f + 1) (tok :: l) long = none := by
 unfold parseP; rw [h]
theorem pq_few (h : numP (tok.toNat / 16) l = some (a, l1)) (c : l1.length < a) : parseP (f + 1) (tok :: l) long = none := by
 unfold parseP; rw [h]; simp only []; rw [if_pos c]
theorem pq_last (h : numP (tok.toNat / 16) l = some (a, l1)) (c : l1.length = a) : parseP (f + 1) (tok :: l) long = if tok.toNat % 16 = 0 then some ([(l1, 0, 0)], long + a) else none := by
 unfold parseP; rw [h]; simp only []; rw [if_neg (by omega), if_pos c]
theorem pq_one (h : numP (tok.toNat / 16) l = some (a, l1)) (c : a < l1.length) (hd : l1.drop a = [d0]) : parseP (f + 1) (tok :: l) long = none := by
 unfold parseP; rw [h]; simp only []; rw [if_neg (by omega), if_neg (by omega), hd]
theorem pq_num2 (h : numP (tok.toNat / 16) l = some (a, l1)) (c : a < l1.length) (hd : l1.drop a = d0 :: d1 :: l2) (h2 : numP (tok.toNat % 16) l2 = none) : parseP (f + 1) (tok :: l) long = none := by
 unfold parseP; rw [h]; simp only []; rw [if_neg (by omega), if_neg (by omega), hd]; simp only []; rw [h2]
theorem pq_far (h : numP (tok.toNat / 16) l = some (a, l1)) (c : a < l1.length) (hd : l1.drop a = d0 :: d1 :: l2) (h2 : numP (tok.toNat % 16) l2 = some (b, l3)) (hf : d0.toNat + d1.toNat * 256 = 0 ∨ long + a < d0.toNat + d1.toNat * 256) :
  parseP (f + 1) (tok :: l) long = none := by
 unfold parseP; rw [h]; simp only []; rw [if_neg (by omega), if_neg (by omega), hd]; simp only []; rw [h2]; simp only []; rw [if_pos hf]
theorem pq_go (h : numP (tok.toNat / 16) l = some (a, l1)) (c : a < l1.length) (hd : l1.drop a = d0 :: d1 :: l2) (h2 : numP (tok.toNat % 16) l2 = some (b, l3)) (hf : ¬ (d0.toNat + d1.toNat * 256 = 0 ∨ long + a < d0.toNat + d1.toNat * 256)) :
  parseP (f + 1) (tok :: l) long = (parseP f l3 (long + a + (b + 4))).map fun p => ((l1.take a, d0.toNat + d1.toNat * 256, b + 4) :: p.1, p.2) := by
 conv => lhs; unfold parseP
 rw [h]; simp only []; rw [if_neg (by omega), if_neg (by omega), hd]; simp only []; rw [h2]; simp only []; rw [if_neg hf]
end
theorem parse_cnt : ∀ {f : Nat} {l : List UInt8} {long : Nat} {qs : List Sq} {n : Nat}, parseP f l long = some (qs, n) → qs.length ≤ l.length
 | 0, l, _, _, _, h => by simp [parseP] at h
 | f + 1, [], _, _, _, h => by simp [parseP] at h
 | f + 1, tok :: l, long, qs, n, h => by
  unfold parseP at h
  split at h
  ·cases h
  ·rename_i a l1 ha
   have s1 := numP_sub ha
   split at h
   ·cases h
   ·split at h
    ·split at h
     ·simp only [Option.some.injEq, Prod.mk.injEq] at h
      obtain ⟨rfl, rfl⟩ := h
      simp
     ·cases h
    ·split at h
     ·rename_i d0 d1 l2 he
      have s2 : l2.length + 2 ≤ l1.length := by
       have := congrArg List.length he
       simp at this; omega
      split at h
      ·cases h
      ·rename_i b l3 hb
       have s3 := numP_sub hb
       split at h
       ·cases h
       ·cases hp : parseP f l3 (long + a + (b + 4)) with
        | none => rw [hp] at h; cases h
        | some q =>
         rw [hp] at h
         simp only [Option.map_some, Option.some.injEq, Prod.mk.injEq] at h
         obtain ⟨rfl, rfl⟩ := h
         have := parse_cnt (qs := q.1) (n := q.2) hp
         simp only [List.length_cons]
         omega
     ·cases h
end Ge
namespace Ge
open Go Gx
theorem and15z : ∀ a : Fin 256, Go.bits .and .i64 (a.val : Int) 15 = ((a.val % 16 : Nat) : Int) := by decide +kernel
theorem orLow {n m i : Nat} (hn : n < 2 ^ i) (hb : n + m * 2 ^ i < 9223372036854775808) : Go.bits .or .i64 (n : Int) ((m * 2 ^ i : Nat) : Int) = ((n + m * 2 ^ i : Nat) : Int) := by
 have hw : ∀ z : Int, 0 ≤ z → z < 2 ^ 63 → IntKind.wrap .i64 z = z := fun z h0 h1 => Gx.w64 z (by omega)
 have e := (bits_nat .i64 63 (by decide) hw n (m * 2 ^ i) (by omega) (by omega)).2
 rw [e]
 congr 1
 have := Nat.two_pow_add_eq_or_of_lt hn m
 rw [Nat.or_comm, Nat.mul_comm, ← this]
 omega
theorem two_bytes (c d : UInt8) : Go.bits .or .i64 (c.toNat : Int) (IntKind.wrap .i64 ((d.toNat : Int) * 256)) = ((c.toNat + d.toNat * 256 : Nat) : Int) := by
 have hc := c.toNat_lt
 have hd := d.toNat_lt
 have := orLow (n := c.toNat) (m := d.toNat) (i := 8) (by omega) (by omega)
 rw [Gx.w64 _ (by omega)]
 rw [show (d.toNat : Int) * 256 = ((d.toNat * 2 ^ 8 : Nat) : Int) by omega]
 exact this
def encQ (q : Sq) : List Value := [.string ⟨⟨q.1⟩⟩, .int .i64 (q.2.1 : Int), .int .i64 (q.2.2 : Int)]
theorem encQ_len (q : Sq) : (encQ q).length = 3 := rfl
theorem encQ_one (q : Sq) : allOne (encQ q) = true := rfl
section
variable {k rb p : Nat} {h h' : AHeap} {s : ByteArray} {b : Bool}
theorem literals_bad (D : CallF) (R : RL h rb s p b) (hs : s.size ≤ 1000000) (hp : p ≤ s.size) {n : Nat} (hc : b = true ∨ s.size - p < n) :
  Gx.Wp (lz_reader_literals k D (some ⟨rb, 0, none⟩) (n : Int) h) fun z => Chg (· = rb) h z.2 ∧ z.2.next = h.next ∧ RL z.2 rb s p true := by
 simp only [lz_reader_literals]
 refine Wp.jn fun j hj => .bnd rfl (.bnd (ldB_at R.g rfl) ?_)
 have bad : ∀ y, y = true → Gx.Wp (j (some ⟨rb, 0, none⟩) n y h) fun z => Chg (· = rb) h z.2 ∧ z.2.next = h.next ∧ RL z.2 rb s p true := by
  intro y hy
  rw [hj]
  refine .ifp hy (.bnd rfl ?_)
  exact Wp.st R.g (by simp) rfl fun H c n g => .of ⟨c, n, g, by show rb < H.next; rw [n]; exact R.lt⟩
 cases b with
 | true => exact .ifp rfl (bad true rfl)
 | false =>
  refine .ifn (by decide) (.bnd rfl (.bnd (ldS_at R.g rfl) (.bnd rfl (.bnd (sldI_at R.g rfl) ?_))))
  rw [show IntKind.wrap .i64 ((s.size : Int) - (p : Int)) = ((s.size - p : Nat) : Int) by rw [Gx.w64 _ (by omega)]; omega]
  exact bad _ (by simp at hc; simp; omega)
theorem literals_ok (D : CallF) (R : RL h rb s p false) (hs : s.size ≤ 1000000) (hp : p ≤ s.size) {n : Nat} (c : n ≤ s.size - p) :
  Gx.Wp (lz_reader_literals k D (some ⟨rb, 0, none⟩) (n : Int) h) fun z => Chg (· = rb) h z.2 ∧ z.2.next = h.next ∧ z.1 = ⟨⟨((bl s).drop p).take n⟩⟩ ∧ RL z.2 rb s (p + n) false := by
 simp only [lz_reader_literals]
 refine Wp.jn fun j hj => .bnd rfl (.bnd (ldB_at R.g rfl) (.ifn (by decide) (.bnd rfl (.bnd (ldS_at R.g rfl) (.bnd rfl (.bnd (sldI_at R.g rfl) ?_))))))
 rw [show IntKind.wrap .i64 ((s.size : Int) - (p : Int)) = ((s.size - p : Nat) : Int) by rw [Gx.w64 _ (by omega)]; omega]
 rw [hj]
 refine .ifn (by simp; omega) (.bnd rfl (.bnd (sldI_at R.g rfl) (.bnd rfl ?_)))
 rw [show IntKind.wrap .i64 ((p : Int) + (n : Int)) = ((p + n : Nat) : Int) by rw [Gx.w64 _ (by omega)]; omega]
 refine Wp.st R.g (by simp) rfl fun H c1 n1 g => ?_
 refine .bnd rfl (.bnd (ldS_at g rfl) (.bnd rfl (.bnd (sldI_at g rfl) (.bnd rfl (.bnd (sldI_at g rfl) ?_)))))
 rw [show IntKind.wrap .i64 (((p + n : Nat) : Int) - (n : Int)) = (p : Int) by rw [Gx.w64 _ (by omega)]; omega]
 refine .bnd (subS_of (i := p) (j := p + n) rfl rfl (by omega) (by omega)) (.of ⟨c1, n1, ?_, g, by show rb < H.next; rw [n1]; exact R.lt⟩)
 rw [List.drop_take, show p + n - p = n by omega]
theorem number_bad (D : CallF) (hk : 2 ≤ k) (R : RL h rb s p true) (hs : s.size ≤ 1000000) (hp : p = s.size) {n : Nat} (hn : n ≤ 1000000) :
  Gx.Wp (lz_reader_number k D (some ⟨rb, 0, none⟩) (n : Int) h) fun z => Chg (· = rb) h z.2 ∧ z.2.next = h.next ∧ (∃ m : Nat, z.1 = (m : Int)) ∧ RL z.2 rb s p true := by
 simp only [lz_reader_number]
 by_cases c : n < 15
 ·exact .ifp (by simp; omega) (.of ⟨Chg.refl _ _, rfl, ⟨n, rfl⟩, R⟩)
 ·refine .ifn (by simp; omega) ?_
  unfold lz_reader_number_l0
  obtain ⟨bot, eb⟩ := iterK_of (fun _ _ _ => none) (lz_reader_number_l0b k D) (show 0 + 1 ≤ k by omega)
  rw [eb, iterK_s]; simp only [lz_reader_number_l0b]
  refine .call (byte_spec D R hs (by omega)) fun r ⟨c1, n1, h1⟩ => ?_
  have e : (bl s)[p]? = none := List.getElem?_eq_none_iff.2 (by rw [bl_length]; omega)
  rw [e] at h1
  obtain ⟨h1, R1⟩ := h1
  refine Wp.jn fun j hj => ?_
  rw [h1]
  refine .ifp (by decide) ?_
  rw [hj]
  exact .ifp rfl (.of ⟨c1, n1, ⟨n, Gx.w64 _ (by omega)⟩, R1⟩)
end
def ParseQ (rb : Nat) (H : AHeap) (acc : List Sq) (o : Option (List Sq × Nat)) (z : (Slc × Int × Bool) × AHeap) : Prop :=
 Chg (fun y => rb ≤ y) H z.2 ∧ match o with
  | some (qs, n) => ∃ sl, z.1 = (sl, (n : Int), true) ∧ AccW 3 encQ 141 (rb + 1) z.2 sl (acc ++ qs)
  | none => z.1.2.2 = false
section
variable {k rb : Nat} {s : ByteArray}
theorem atRb {rb : Nat} {h h' : AHeap} (c : Chg (· = rb) h h') : Chg (fun y => rb ≤ y) h h' := c.wk fun y _ e => by have e : y = rb := e; omega
theorem keepRb {rb : Nat} {h h' : AHeap} (c : Keeps h h') : Chg (fun y => rb ≤ y) h h' := Chg.keeps c
theorem decQ (q : Sq) : decC [.s, .i .i64, .i .i64] (encQ q) = some (⟨⟨q.1⟩⟩, (q.2.1 : Int), (q.2.2 : Int)) := rfl
theorem atX {rb x : Nat} {h h' : AHeap} (c : Chg (· = x) h h') (hx : rb ≤ x) : Chg (fun y => rb ≤ y) h h' := c.wk fun y _ e => by have e : y = x := e; omega
theorem parse_loop (D : CallF) (hk : s.size + 4 ≤ k) (hs : s.size ≤ 4000) (bot) : ∀ (d p long : Nat) (H : AHeap) (l : Slc) (acc : List Sq), p ≤ s.size → s.size - p ≤ d → long + 255 * (s.size - p) ≤ 1020000 → acc.length ≤ p →
  RL H rb s p false → AccW 3 encQ 141 (rb + 1) H l acc →
  Gx.Wp (iterK bot (d + 1) (lz_parse_l0b k D) s l (long : Int) (some ⟨rb, 0, none⟩) H) (ParseQ rb H acc (parseP (d + 1) ((bl s).drop p) long)) := by
 intro d
 induction d with
 | zero =>
  intro p long H l acc hp hd hM hacc R A
  rw [iterK_s]; simp only [lz_parse_l0b]
  have e : (bl s)[p]? = none := List.getElem?_eq_none_iff.2 (by rw [bl_length]; omega)
  have e2 : (bl s).drop p = [] := List.drop_of_length_le (by rw [bl_length]; omega)
  rw [e2]
  refine .call (byte_spec D R (by omega) hp) fun r8 ⟨c8, n8, h8⟩ => ?_
  rw [e] at h8
  obtain ⟨h8, R8⟩ := h8
  rw [h8]
  refine .call (number_bad (n := 0) D (by omega) R8 (by omega) (by omega) (by omega)) fun r9 ⟨c9, n9, ⟨m9, h9⟩, R9⟩ => ?_
  rw [h9]
  refine .call (literals_bad D R9 (by omega) (by omega) (.inl rfl)) fun r10 ⟨c10, n10, R10⟩ => ?_
  refine Wp.newE fun h11 e11 k11 n11 g11 => Wp.stL g11 rfl rfl rfl (by decide) fun h12 c12 n12 g12 => ?_
  have hR10 := R10.lt
  have R12 := (R10.keeps k11).chg c12 (by omega)
  exact .bnd (ldS_at g12 rfl) (.bnd rfl (.bnd (ldB_at R12.g rfl) (.ifp rfl (.of ⟨(((((atRb c8).trans (atRb c9)).trans (atRb c10)).trans (keepRb k11)).trans (atX c12 (by omega))), rfl⟩))))
 | succ d ih =>
  intro p long H l acc hp hd hM hacc R A
  rw [iterK_s]; simp only [lz_parse_l0b]
  have hRl := R.lt
  refine .call (byte_spec D R (by omega) hp) fun r8 ⟨c8, n8, h8⟩ => ?_
  cases hc : (bl s)[p]? with
  | none =>
   rw [hc] at h8
   obtain ⟨h8, R8⟩ := h8
   have ep : p = s.size := by have := List.getElem?_eq_none_iff.1 hc; rw [bl_length] at this; omega
   have e2 : (bl s).drop p = [] := List.drop_of_length_le (by rw [bl_length]; omega)
   rw [e2, h8]
   refine .call (number_bad (n := 0) D (by omega) R8 (by omega) ep (by omega)) fun r9 ⟨c9, n9, ⟨m9, h9⟩, R9⟩ => ?_
   rw [h9]
   refine .call (literals_bad D R9 (by omega) (by omega) (.inl rfl)) fun r10 ⟨c10, n10, R10⟩ => ?_
   refine Wp.newE fun h11 e11 k11 n11 g11 => Wp.stL g11 rfl rfl rfl (by decide) fun h12 c12 n12 g12 => ?_
   have hR10 := R10.lt
   have R12 := (R10.keeps k11).chg c12 (by omega)
   exact .bnd (ldS_at g12 rfl) (.bnd rfl (.bnd (ldB_at R12.g rfl) (.ifp rfl (.of ⟨(((((atRb c8).trans (atRb c9)).trans (atRb c10)).trans (keepRb k11)).trans (atX c12 (by omega))), rfl⟩))))
  | some c =>
   rw [hc] at h8
   obtain ⟨h8, R8⟩ := h8
   have hlt := get_lt hc
   have hcl := c.toNat_lt
   rw [dropc hc, h8, show Int.fdiv (c.toNat : Int) 16 = ((c.toNat / 16 : Nat) : Int) by rw [Int.fdiv_eq_ediv_of_nonneg _ (by decide)]; omega]
   refine .call (number_spec D (by omega) R8 (by omega) hlt (by omega)) fun r9 ⟨c9, n9, h9⟩ => ?_
   cases hn1 : numP (c.toNat / 16) ((bl s).drop (p + 1)) with
   | none =>
    rw [hn1] at h9
    obtain ⟨q, m, h9, hq, R9⟩ := h9
    rw [pq_num hn1, h9]
    refine .call (literals_bad D R9 (by omega) hq (.inl rfl)) fun r10 ⟨c10, n10, R10⟩ => ?_
    refine Wp.newE fun h11 e11 k11 n11 g11 => Wp.stL g11 rfl rfl rfl (by decide) fun h12 c12 n12 g12 => ?_
    have hR10 := R10.lt
    have R12 := (R10.keeps k11).chg c12 (by omega)
    exact .bnd (ldS_at g12 rfl) (.bnd rfl (.bnd (ldB_at R12.g rfl) (.ifp rfl (.of ⟨(((((atRb c8).trans (atRb c9)).trans (atRb c10)).trans (keepRb k11)).trans (atX c12 (by omega))), rfl⟩))))
   | some x =>
    obtain ⟨a, l1⟩ := x
    rw [hn1] at h9
    obtain ⟨h9, q, hq1, hq2, el1, R9⟩ := h9
    rw [h9]
    have ll1 : l1.length = s.size - q := by rw [el1, List.length_drop, bl_length]
    obtain ⟨_, pr, epr, hpr⟩ := numP_len hn1
    have lpr : pr.length = q - (p + 1) := by
     have := congrArg List.length epr
     rw [List.length_append, List.length_drop, bl_length, ll1] at this
     omega
    by_cases ca : s.size - q < a
    ·rw [pq_few hn1 (by omega)]
     refine .call (literals_bad D R9 (by omega) hq2 (.inr ca)) fun r10 ⟨c10, n10, R10⟩ => ?_
     refine Wp.newE fun h11 e11 k11 n11 g11 => Wp.stL g11 rfl rfl rfl (by decide) fun h12 c12 n12 g12 => ?_
     have hR10 := R10.lt
     have R12 := (R10.keeps k11).chg c12 (by omega)
     exact .bnd (ldS_at g12 rfl) (.bnd rfl (.bnd (ldB_at R12.g rfl) (.ifp rfl (.of ⟨(((((atRb c8).trans (atRb c9)).trans (atRb c10)).trans (keepRb k11)).trans (atX c12 (by omega))), rfl⟩))))
    refine .call (literals_ok D R9 (by omega) hq2 (n := a) (by omega)) fun r10 ⟨c10, n10, h10, R10⟩ => ?_
    rw [← el1] at h10
    refine Wp.newE fun h11 e11 k11 n11 g11 => ?_
    rw [h10]
    refine Wp.stL g11 rfl rfl rfl (by decide) fun h12 c12 n12 g12 => ?_
    have hR10 := R10.lt
    have R12 := (R10.keeps k11).chg c12 (by omega)
    have cH12 : Chg (fun y => rb ≤ y) H h12 := (((((atRb c8).trans (atRb c9)).trans (atRb c10)).trans (keepRb k11)).trans (atX c12 (by omega)))
    have A12 : AccW 3 encQ 141 (rb + 1) h12 l acc := by
     have A0 := A.chg (c8.trans (c9.trans c10)) fun z hz e => by have := (A.lt z hz).2; have e : z.block = rb := e; omega
     exact (A0.keeps k11).chg c12 fun z hz e => by have := (A0.lt z hz).1; have e : z.block = r10.2.next := e; omega
    have lt1 : (l1.take a).length = a := by rw [List.length_take]; omega
    have ht : (if (1048577 : Int) < IntKind.wrap .i64 ((long : Int) + ((⟨⟨l1.take a⟩⟩ : ByteArray).size : Int)) then (1048577 : Int) else IntKind.wrap .i64 ((long : Int) + ((⟨⟨l1.take a⟩⟩ : ByteArray).size : Int))) = ((long + a : Nat) : Int) := by
     rw [size_mk, lt1, Gx.w64 _ (by omega), if_neg (by omega)]; omega
    refine .bnd (ldS_at g12 rfl) ?_
    simp only [ht]
    refine .bnd rfl (.bnd (ldB_at R12.g rfl) (.ifn (by decide) (.bnd rfl (.bnd (sldI_at R12.g rfl) ?_))))
    by_cases ce : q + a = s.size
    ·-- the last one
     rw [pq_last hn1 (by omega)]
     refine .ifp (by simp; omega) (.bnd (sldA_at g12 rfl) (.bnd (decQ (l1.take a, 0, 0)) (Wp.newE fun h21 e21 k21 n21 g21 => ?_)))
     obtain ⟨s', h22, a2, A22, c22, d22⟩ := A12.push encQ_len encQ_one (l1.take a, 0, 0) (bytes := 32) (by decide) (by omega) (by omega)
     rw [show AHeap.new h12 (.cells (encQ (l1.take a, 0, 0)) 141 true 0) = h21 from e21.symm] at a2
     refine .bnd (show Gx.rdS 3 _ h21 = some (encQ (l1.take a, 0, 0)) from by rw [e21]; exact rdS_oneW encQ_len _ _) (.bnd a2 (.of ?_))
     have cz : Chg (fun y => rb ≤ y) H h22 := cH12.trans (c22.wk fun y _ ⟨z, hz, e⟩ => by have := (A12.lt z hz).2; omega)
     refine ⟨cz, ?_⟩
     have eb : (Go.bits .and .i64 (c.toNat : Int) 15 == 0) = decide (c.toNat % 16 = 0) := by
      rw [and15z ⟨c.toNat, hcl⟩]
      by_cases z : c.toNat % 16 = 0
      ·simp [z]
      ·simp [z]; omega
     by_cases cz : c.toNat % 16 = 0
     ·rw [if_pos cz]
      refine ⟨s', ?_, ?_⟩
      ·show (s', ((long + a : Nat) : Int), (Go.bits .and .i64 (c.toNat : Int) 15 == 0)) = _
       rw [eb, decide_eq_true cz]
      ·have : l1.take a = l1 := List.take_of_length_le (by omega)
       rw [this] at A22
       exact A22
     ·rw [if_neg cz]
      show (Go.bits .and .i64 (c.toNat : Int) 15 == 0) = false
      rw [eb, decide_eq_false cz]
    ·refine .ifn (by simp; omega) ?_
     have hcl1 : a < l1.length := by omega
     have edr : l1.drop a = (bl s).drop (q + a) := by rw [el1, List.drop_drop]
     obtain ⟨d0, hd0⟩ := isome (l := bl s) (i := q + a) (by rw [bl_length]; omega)
     have d0l := d0.toNat_lt
     refine .call (byte_spec D R12 (by omega) (by omega)) fun r24 ⟨c24, n24, h24⟩ => ?_
     rw [hd0] at h24
     obtain ⟨h24, R24⟩ := h24
     rw [h24]
     have g24 := c24.got (by omega) (by omega) g12
     refine .call (byte_spec D R24 (by omega) (by omega)) fun r25 ⟨c25, n25, h25⟩ => ?_
     have g25 := c25.got (by omega) (by omega) g24
     cases hd1 : (bl s)[q + a + 1]? with
     | none =>
      rw [hd1] at h25
      obtain ⟨h25, R25⟩ := h25
      have eq1 : q + a + 1 = s.size := by have := List.getElem?_eq_none_iff.1 hd1; rw [bl_length] at this; omega
      have hone : l1.drop a = [d0] := by rw [edr, dropc hd0, List.drop_of_length_le (by rw [bl_length]; omega)]
      rw [pq_one hn1 hcl1 hone, h25]
      refine Wp.st g25 (by simp) rfl fun h26 c26 n26 g26 => ?_
      have R26 := R25.chg c26 (by omega)
      rw [and15z ⟨c.toNat, hcl⟩]
      refine .call (number_bad D (by omega) R26 (by omega) eq1 (by show c.toNat % 16 ≤ _; omega)) fun r27 ⟨c27, n27, ⟨m27, h27⟩, R27⟩ => ?_
      have g27 := c27.got (by omega) (by omega) g26
      refine Wp.st g27 (by simp) rfl fun h28 c28 n28 g28 => Wp.jn fun j36 h36 => ?_
      have R28 := R27.chg c28 (by omega)
      refine .bnd rfl (.bnd (ldB_at R28.g rfl) (.ifp rfl ?_))
      rw [h36]
      exact .ifp rfl (.of ⟨((((cH12.trans (atRb c24)).trans (atRb c25)).trans (atX c26 (by omega))).trans (atRb c27)).trans (atX c28 (by omega)), rfl⟩)
     | some d1 =>
      rw [hd1] at h25
      obtain ⟨h25, R25⟩ := h25
      have hlt1 := get_lt hd1
      have d1l := d1.toNat_lt
      have htwo : l1.drop a = d0 :: d1 :: (bl s).drop (q + a + 1 + 1) := by rw [edr, dropc hd0, dropc hd1]
      rw [h25, two_bytes]
      refine Wp.st g25 (by simp) rfl fun h26 c26 n26 g26 => ?_
      have R26 := R25.chg c26 (by omega)
      rw [and15z ⟨c.toNat, hcl⟩]
      refine .call (number_spec D (by omega) R26 (by omega) (by omega) (n := c.toNat % 16) (by omega)) fun r27 ⟨c27, n27, h27⟩ => ?_
      have g27 := c27.got (by omega) (by omega) g26
      have cH27 := (((cH12.trans (atRb c24)).trans (atRb c25)).trans (atX (rb := rb) c26 (by omega))).trans (atRb c27)
      cases hn2 : numP (c.toNat % 16) ((bl s).drop (q + a + 1 + 1)) with
      | none =>
       rw [hn2] at h27
       obtain ⟨q', m, h27, hq', R27⟩ := h27
       rw [pq_num2 hn1 hcl1 htwo hn2]
       refine Wp.st g27 (by simp) rfl fun h28 c28 n28 g28 => Wp.jn fun j36 h36 => ?_
       have R28 := R27.chg c28 (by omega)
       refine .bnd rfl (.bnd (ldB_at R28.g rfl) (.ifp rfl ?_))
       rw [h36]
       exact .ifp rfl (.of ⟨cH27.trans (atX c28 (by omega)), rfl⟩)
      | some x =>
       obtain ⟨b, l3⟩ := x
       rw [hn2] at h27
       obtain ⟨h27, q', hq3, hq4, el3, R27⟩ := h27
       have ll3 : l3.length = s.size - q' := by rw [el3, List.length_drop, bl_length]
       obtain ⟨_, pr2, epr2, hpr2⟩ := numP_len hn2
       have lpr2 : pr2.length = q' - (q + a + 1 + 1) := by
        have := congrArg List.length epr2
        rw [List.length_append, List.length_drop, bl_length, ll3] at this
        omega
       rw [h27, show IntKind.wrap .i64 ((b : Int) + 4) = ((b + 4 : Nat) : Int) by rw [Gx.w64 _ (by omega)]; omega]
       refine Wp.st g27 (by simp) rfl fun h28 c28 n28 g28 => Wp.jn fun j36 h36 => ?_
       have R28 := R27.chg c28 (by omega)
       have cH28 := cH27.trans (atX (rb := rb) c28 (by omega))
       have bad : (d0.toNat + d1.toNat * 256 = 0 ∨ long + a < d0.toNat + d1.toNat * 256) → ∀ y, y = true → Gx.Wp (j36 s l ((long + a : Nat) : Int) (some ⟨rb, 0, none⟩) (some ⟨r10.2.next, 0, none⟩) y h28) (ParseQ rb H acc (parseP (d + 1 + 1) (c :: (bl s).drop (p + 1)) long)) := fun hf y hy => by
        rw [h36, pq_far hn1 hcl1 htwo hn2 hf]
        exact .ifp hy (.of ⟨cH28, rfl⟩)
       refine .bnd rfl (.bnd (ldB_at R28.g rfl) (.ifn (by decide) (.bnd (sldI_at g28 rfl) ?_)))
       by_cases cd0 : d0.toNat + d1.toNat * 256 = 0
       ·exact .ifp (by simp; omega) (bad (.inl cd0) _ rfl)
       refine .ifn (by simp; omega) (.bnd (sldI_at g28 rfl) ?_)
       by_cases cd1 : long + a < d0.toNat + d1.toNat * 256
       ·exact bad (.inr cd1) _ (by simp; omega)
       rw [pq_go hn1 hcl1 htwo hn2 (fun q => q.elim cd0 cd1), h36]
       refine .ifn (by simp; omega) (.bnd rfl (.bnd (sldI_at g28 rfl) ?_))
       have ht2 : (if (1048577 : Int) < IntKind.wrap .i64 (((long + a : Nat) : Int) + ((b + 4 : Nat) : Int)) then (1048577 : Int) else IntKind.wrap .i64 (((long + a : Nat) : Int) + ((b + 4 : Nat) : Int))) = ((long + a + (b + 4) : Nat) : Int) := by
        rw [Gx.w64 _ (by omega), if_neg (by omega)]; omega
       simp only [ht2]
       obtain ⟨qq, eqq⟩ : ∃ qq : Sq, qq = (l1.take a, d0.toNat + d1.toNat * 256, b + 4) := ⟨_, rfl⟩
       have A28 : AccW 3 encQ 141 (rb + 1) h28 l acc := by
        have A1 := A12.chg ((c24.trans c25)) fun z hz e => by have := (A12.lt z hz).2; have e : z.block = rb := e; omega
        have A2 := A1.chg c26 fun z hz e => by have := A.lt z hz; have := c8.nx; have := c9.nx; have := c10.nx; have e : z.block = r10.2.next := e; omega
        have A3 := A2.chg c27 fun z hz e => by have := (A12.lt z hz).2; have e : z.block = rb := e; omega
        exact A3.chg c28 fun z hz e => by have := A.lt z hz; have := c8.nx; have := c9.nx; have := c10.nx; have e : z.block = r10.2.next := e; omega
       obtain ⟨s', h44, a2, A44, c44, d44⟩ := A28.push encQ_len encQ_one qq (bytes := 32) (by decide) (by omega) (by omega)
       have ec : encQ qq = [.string ⟨⟨l1.take a⟩⟩, .int .i64 ((d0.toNat + d1.toNat * 256 : Nat) : Int), .int .i64 ((b + 4 : Nat) : Int)] := by rw [eqq]; rfl
       refine .bnd rfl (.bnd (show ldA 3 ⟨r10.2.next, 0, none⟩ h28 = some (encQ qq) from by rw [ec]; exact sldA_at g28 rfl) (.bnd (decQ qq) (Wp.newE fun h43 e43 k43 n43 g43 => ?_)))
       rw [show AHeap.new h28 (.cells (encQ qq) 141 true 0) = h43 from e43.symm] at a2
       refine .bnd (show Gx.rdS 3 _ h43 = some (encQ qq) from by rw [e43]; exact rdS_oneW encQ_len _ _) (.bnd a2 ?_)
       have cH44 : Chg (fun y => rb ≤ y) H h44 := cH28.trans (c44.wk fun y _ ⟨z, hz, e⟩ => by have := (A28.lt z hz).2; omega)
       have R44 := R28.chg c44 fun ⟨z, hz, e⟩ => by have := (A28.lt z hz).2; omega
       have lq : (acc ++ [qq]).length = acc.length + 1 := by simp
       refine .mono (ih q' (long + a + (b + 4)) h44 s' (acc ++ [qq]) hq4 (by omega) (by omega) (by omega) R44 A44) fun z ⟨w1, w2⟩ => ⟨cH44.trans w1, ?_⟩
       rw [el3]
       cases hp : parseP (d + 1) ((bl s).drop q') (long + a + (b + 4)) with
       | none => rw [hp] at w2; exact w2
       | some x =>
        obtain ⟨qs, n⟩ := x
        rw [hp] at w2
        obtain ⟨sl, w3, w4⟩ := w2
        refine ⟨sl, w3, ?_⟩
        rw [List.append_assoc] at w4
        rw [← eqq]
        exact w4
end
end Ge
namespace Ge
open Go Gx
section
variable {k : Nat} {s : ByteArray} {h : AHeap}
theorem parse_spec (D : CallF) (hk : s.size + 4 ≤ k) (hs : s.size ≤ 4000) :
  Gx.Wp (lz_parse k D s h) fun z => Keeps h z.2 ∧ match unz (bl s) with
   | some (qs, n) => ∃ sl, z.1 = (sl, (n : Int), true) ∧ AccW 3 encQ 141 (h.next + 1) z.2 sl qs
   | none => z.1.2.2 = false := by
 simp only [lz_parse]
 refine Wp.newE fun h1 e1 k1 n1 g1 => ?_
 unfold lz_parse_l0
 obtain ⟨bot, eb⟩ := iterK_of (fun _ _ _ _ _ => none) (lz_parse_l0b k D) (show s.size + 1 ≤ k by omega)
 rw [eb]
 have R : RL h1 h.next s 0 false := ⟨g1, by omega⟩
 refine .mono (parse_loop D hk hs bot s.size 0 0 h1 ⟨none, 0, 0⟩ [] (by omega) (by omega) (by omega) (by simp) R (AccW.nil _ _ _ _ _)) fun z ⟨w1, w2⟩ => ⟨k1.keepsS w1 fun y hy => hy, ?_⟩
 rw [List.drop_zero] at w2
 unfold unz
 rw [bl_length]
 cases hp : parseP (s.size + 1) (bl s) 0 with
 | none => rw [hp] at w2; exact w2
 | some x =>
  obtain ⟨qs, n⟩ := x
  rw [hp] at w2
  exact w2
end
def filB (out : List UInt8) (r : Nat) : ABlk := .cells ((out ++ List.replicate r 0).map encB) 5 true 0
section
variable {ob r : Nat} {H : AHeap} {out : List UInt8}
theorem rdL_in {h : AHeap} {b o n : Nat} {c : List Value} {e : TypeId} {r : Bool} {fz : Nat} (hb : h.get b = some (.cells c e r fz)) (hle : o + n ≤ c.length) : h.rdL b o n = some ((c.drop o).take n) := by
 cases n with
 | zero => simp [AHeap.rdL]
 | succ n => simp only [AHeap.rdL, hb]; rw [if_pos hle]
theorem allOneB (l : List UInt8) : allOne (l.map encB) = true := allOne_map (fun _ => rfl) l
theorem copy_blk (g : H.get ob = some (filB out r)) {ws : List UInt8} (hw : ws.length ≤ r) {d : Slc} {a : Addr} (ha : d.a = some a) (hab : a.block = ob) (hao : ws ≠ [] → a.off = out.length) {n : Nat} {new : List Value} (hn : new.take (n * 1) = ws.map encB) :
  ∃ H', copyA 1 H d n new = some H' ∧ Chg (· = ob) H H' ∧ H'.next = H.next ∧ H'.get ob = some (filB (out ++ ws) (r - ws.length)) := by
 simp only [copyA, ha, hn, hab]
 cases ws with
 | nil => exact ⟨H, rfl, Chg.refl _ _, rfl, by simpa using g⟩
 | cons x xs =>
  rw [hao (by simp)]
  obtain ⟨ws, ew⟩ : ∃ ws, ws = x :: xs := ⟨_, rfl⟩
  rw [← ew] at hw hn ⊢
  have hne : ws.map encB ≠ [] := by rw [ew]; simp
  have e : H.wrL ob out.length (ws.map encB) = some (H.set ob (.cells (splice ((out ++ List.replicate r 0).map encB) out.length (ws.map encB)) 5 true 0)) := by
   cases hz : ws.map encB with
   | nil => exact absurd hz hne
   | cons v t =>
    have hl : (v :: t).length = ws.length := by rw [← hz]; simp
    simp only [AHeap.wrL, g, filB]
    rw [if_pos ⟨by rw [hl]; simp; omega, by simp, by rw [← hz]; exact allOneB ws⟩]
  rw [e]
  refine ⟨_, rfl, Chg.set (.inr rfl), rfl, ?_⟩
  simp only [sset_get, filB, splice]
  congr 2
  rw [← List.map_take, ← List.map_drop, List.length_map, ← List.map_append, ← List.map_append]
  congr 1
  rw [List.take_left, List.drop_append, List.drop_of_length_le (by omega)]
  simp
end
theorem subL_mid {b N lo hi : Nat} (h1 : lo ≤ hi) (h2 : hi ≤ N) (h3 : lo < N) : Gx.subL 1 ⟨some ⟨b, 0, some 0⟩, N, N⟩ (some (lo : Int)) (some (hi : Int)) none = some ⟨some ⟨b, lo, some 0⟩, hi - lo, N - lo⟩ := by
 have e1 : ((hi : Int) - lo).toNat = hi - lo := by omega
 have e2 : ((N : Int) - lo).toNat = N - lo := by omega
 have e3 : ¬ ((N : Int) = (lo : Int)) := by omega
 simp only [Gx.subL, Option.getD_some, Option.getD_none, e1, e2]
 rw [if_pos (by omega), if_pos (show spOk (some 0) 1 = true from rfl), if_neg e3]
 simp
section
variable {k ob N : Nat} {D : CallF}
theorem rep_loop {Q : (ByteArray × Int) × AHeap → Prop} {j30 : Slc → Int → Slc → Int → Int → AHeap → Option ((ByteArray × Int) × AHeap)} {xb : Nat} {q : Sq} (hxo : xb ≠ ob) (y45 : Slc) (y46 y47 : Int) (hN : N ≤ 1048576) {hs : AHeap} (bot) :
  ∀ (f left : Nat) (out : List UInt8) (H : AHeap), left < f → (left = 0 ∨ 0 < q.2.1 ∧ q.2.1 ≤ out.length) → out.length + left ≤ N → H.get ob = some (filB out (N - out.length)) → H.get xb = some (.cells (encQ q) 141 true 0) → Chg (· = ob) hs H → xb < H.next →
  (∀ H', Chg (· = ob) hs H' → H'.get ob = some (filB (repP q.2.1 left out) (N - (out.length + left))) → Gx.Wp (j30 ⟨some ⟨ob, 0, some 0⟩, N, N⟩ ((out.length + left : Nat) : Int) y45 y46 y47 H') Q) →
  Gx.Wp (iterK bot f (lz_Unpack_l1b k D j30) ⟨some ⟨ob, 0, some 0⟩, N, N⟩ (out.length : Int) (some ⟨xb, 0, none⟩) (left : Int) y45 y46 y47 H) Q := by
 intro f
 induction f with
 | zero => intro left out H h1; omega
 | succ f ih =>
  intro left out H h1 h2 h3 g gx cc hx J
  rw [iterK_s]; simp only [lz_Unpack_l1b]
  by_cases c : left = 0
  ·subst c
   exact .ifn (by simp) (J H cc g)
  ·obtain ⟨hd, h2⟩ := h2.resolve_left c
   refine .ifp (by simp; omega) (.bnd rfl (.bnd (sldI_at gx rfl) ?_))
   obtain ⟨m, em⟩ : ∃ m, m = min left q.2.1 := ⟨_, rfl⟩
   have e1 : (if (q.2.1 : Int) < (left : Int) then (q.2.1 : Int) else (left : Int)) = (m : Int) := by
    by_cases z : q.2.1 < left
    ·rw [if_pos (by omega)]; omega
    ·rw [if_neg (by omega)]; omega
   have e2 : IntKind.wrap .i64 ((out.length : Int) + (m : Int)) = ((out.length + m : Nat) : Int) := by rw [Gx.w64 _ (by omega)]; omega
   have e3 : IntKind.wrap .i64 ((out.length : Int) - (q.2.1 : Int)) = ((out.length - q.2.1 : Nat) : Int) := by rw [Gx.w64 _ (by omega)]; omega
   simp only [e1, e2]
   have s1 : Gx.subL 1 ⟨some ⟨ob, 0, some 0⟩, N, N⟩ (some (out.length : Int)) (some ((out.length + m : Nat) : Int)) none = some ⟨some ⟨ob, out.length, some 0⟩, m, N - out.length⟩ := by
    rw [subL_mid (by omega) (by omega) (by omega), show out.length + m - out.length = m by omega]
   have s2 : Gx.subL 1 ⟨some ⟨ob, 0, some 0⟩, N, N⟩ (some ((out.length - q.2.1 : Nat) : Int)) (some (out.length : Int)) none = some ⟨some ⟨ob, out.length - q.2.1, some 0⟩, q.2.1, N - (out.length - q.2.1)⟩ := by
    rw [subL_mid (by omega) (by omega) (by omega), show out.length - (out.length - q.2.1) = q.2.1 by omega]
   refine .bnd s1 (.bnd rfl (.bnd (sldI_at gx rfl) ?_))
   rw [e3]
   have rd : Gx.rdS 1 ⟨some ⟨ob, out.length - q.2.1, some 0⟩, q.2.1, N - (out.length - q.2.1)⟩ H = some (((out.drop (out.length - q.2.1)).take q.2.1).map encB) := by
    simp only [Gx.rdS, Nat.mul_one]
    rw [rdL_in g (by simp; omega)]
    congr 1
    rw [← List.map_drop, ← List.map_take, List.drop_append_of_le_length (by omega), List.take_append_of_le_length (by simp; omega)]
   refine .bnd s2 (.bnd rd ?_)
   obtain ⟨ws, ews⟩ : ∃ ws, ws = (out.drop (out.length - q.2.1)).take m := ⟨_, rfl⟩
   have lws : ws.length = m := by rw [ews]; simp; omega
   have emin : min q.2.1 m = m := by omega
   show Gx.Wp ((copyA 1 H _ (min q.2.1 m) _).bind _) Q
   rw [emin]
   obtain ⟨H', cp, c', n', g'⟩ := copy_blk (d := ⟨some ⟨ob, out.length, some 0⟩, m, N - out.length⟩) (n := m) (new := ((out.drop (out.length - q.2.1)).take q.2.1).map encB) g (ws := ws) (by omega) rfl rfl (fun _ => rfl) (by
    rw [Nat.mul_one, ← List.map_take, List.take_take, ews, show min m q.2.1 = m by omega])
   refine .bnd cp ?_
   rw [e2, show IntKind.wrap .i64 ((left : Int) - (m : Int)) = ((left - m : Nat) : Int) by rw [Gx.w64 _ (by omega)]; omega]
   have lo : (out ++ ws).length = out.length + m := by simp [lws]
   have er : repP q.2.1 left out = repP q.2.1 (left - m) (out ++ ws) := by
    rw [show left = m + (left - m) by omega, repP_add, repP_few q.2.1 m out (by omega) h2, ← ews, show m + (left - m) - m = left - m by omega]
   rw [← lo]
   refine ih (left - m) (out ++ ws) H' (by omega) (.inr ⟨hd, by omega⟩) (by omega) (by rw [g', lo, lws]; congr 2; omega) (c'.got hx hxo gx) (cc.trans c') (by omega) fun H'' c'' g'' => ?_
   have ea : (out ++ ws).length + (left - m) = out.length + left := by omega
   rw [ea] at g'' ⊢
   exact J H'' c'' (by rw [er]; exact g'')
theorem subL_from {b at' : Nat} (h1 : at' ≤ N) : ∃ a, Gx.subL 1 ⟨some ⟨b, 0, some 0⟩, N, N⟩ (some (at' : Int)) none none = some ⟨some a, N - at', N - at'⟩ ∧ a.block = b ∧ (at' < N → a.off = at') := by
 have e2 : ((N : Int) - at').toNat = N - at' := by omega
 refine ⟨⟨b, if (N : Int) = (at' : Int) then 0 else 0 + (at' : Int).toNat * 1, some 0⟩, ?_, rfl, fun h => ?_⟩
 ·simp only [Gx.subL, Option.getD_some, Option.getD_none, e2]
  rw [if_pos (by omega), if_pos (show spOk (some 0) 1 = true from rfl)]
  simp
 ·show (if (N : Int) = (at' : Int) then 0 else 0 + (at' : Int).toNat * 1) = at'
  rw [if_neg (by omega)]; omega
theorem seq_loop {j15 : Slc → AHeap → Option ((ByteArray × Int) × AHeap)} (hj : j15 = fun (out13 : Slc) (h14 : AHeap) => (bytesOf h14 out13).bind fun s16 => some ((s16, 0), h14)) (hk : 1048578 ≤ k) (hN : N ≤ 1048576) {h0 : AHeap} {y : Slc} {qs : List Sq} (hob : h0.next ≤ ob) (hy : ∀ a, y.a = some a → a.block ≠ ob) (bot) :
  ∀ (d i : Nat) (out : List UInt8) (H : AHeap), i + d = qs.length → out.length + totQ (qs.drop i) = N → okQ (qs.drop i) out.length → H.get ob = some (filB out (N - out.length)) → RowW 3 encQ H y qs → ob < H.next → Keeps h0 H → qs.length ≤ 100000 →
  Gx.Wp (iterK bot (d + 1) (lz_Unpack_l0b k D j15) ⟨some ⟨ob, 0, some 0⟩, N, N⟩ (out.length : Int) y (y.len : Int) (i : Int) H) fun z => z.1 = (⟨⟨openP (qs.drop i) out⟩⟩, 0) ∧ Keeps h0 z.2 := by
 intro d
 induction d with
 | zero =>
  intro i out H hd ht hq g R ho kp hl
  rw [iterK_s]; simp only [lz_Unpack_l0b]
  have yl := R.len
  rw [List.drop_of_length_le (by omega)] at ht ⊢
  refine .ifn (by rw [yl]; simp; omega) ?_
  rw [hj]
  simp only [totQ, Nat.add_zero] at ht
  rw [filB, ht, Nat.sub_self, List.replicate_zero, List.append_nil] at g
  rw [← ht]
  exact .bnd (bytesOf_out g) (.of ⟨rfl, kp⟩)
 | succ d ih =>
  intro i out H hd ht hq g R ho kp hl
  rw [iterK_s]; simp only [lz_Unpack_l0b]
  have yl := R.len
  obtain ⟨q, hq0⟩ := isome (l := qs) (i := i) (by omega)
  rw [dropc hq0] at ht hq ⊢
  obtain ⟨hq1, hq2⟩ := hq
  simp only [totQ] at ht
  obtain ⟨a, b1, b2, _⟩ := R.ld encQ_len (by decide) hq0
  refine .ifp (by rw [yl]; simp; omega) (Wp.jn fun j30 h30 => .bnd b1 (.bnd b2 (.bnd (decQ q) (Wp.newE fun h34 e34 k34 n34 g34 => Wp.stL g34 rfl rfl rfl (by decide) fun h35 c35 n35 g35 => ?_))))
  have k35 : Keeps H h35 := k34.keepsS c35 fun y hy => by subst hy; omega
  have go35 := k35.got ho g
  obtain ⟨aa, f1, f2, f3⟩ := subL_from (N := N) (b := ob) (at' := out.length) (by omega)
  have hsz : (⟨⟨q.1⟩⟩ : ByteArray).size = q.1.length := size_mk _
  have emin : min (⟨⟨q.1⟩⟩ : ByteArray).size (N - out.length) = q.1.length := by rw [hsz]; omega
  refine .bnd f1 (.bnd (ldS_at g35 rfl) ?_)
  show Gx.Wp ((copyA 1 h35 _ (min (⟨⟨q.1⟩⟩ : ByteArray).size (N - out.length)) _).bind _) _
  rw [emin]
  obtain ⟨h38, cp, c38, n38, g38⟩ := copy_blk (d := ⟨some aa, N - out.length, N - out.length⟩) (n := q.1.length) (new := bytesL ⟨⟨q.1⟩⟩) go35 (ws := q.1) (by omega) rfl f2 (fun hne => f3 (by have := List.length_pos_iff.2 hne; omega)) (by
   rw [Nat.mul_one, bytesL_bl, bl_mk, List.take_of_length_le (by simp)])
  refine .bnd cp ?_
  have gx38 := c38.got (by omega) (by omega) g35
  rw [show IntKind.wrap .i64 ((out.length : Int) + ((q.1.length : Nat) : Int)) = (((out ++ q.1).length : Nat) : Int) by rw [List.length_append, Gx.w64 _ (by omega)]; omega]
  refine .bnd (sldI_at gx38 rfl) ?_
  have lo : (out ++ q.1).length = out.length + q.1.length := List.length_append
  unfold lz_Unpack_l1
  obtain ⟨bot2, eb2⟩ := iterK_of (fun _ _ _ _ _ _ _ _ => none) (lz_Unpack_l1b k D j30) (show q.2.2 + 1 ≤ k by omega)
  rw [eb2]
  have kH38 : Keeps h0 h38 := (kp.trans k35).keepsS c38 fun z hz => by have hz : z = ob := hz; omega
  refine rep_loop (hs := h38) (q := q) (by omega) y (y.len : Int) (i : Int) hN bot2 (q.2.2 + 1) q.2.2 (out ++ q.1) h38 (by omega) (hq1.imp id fun w => ⟨w.1, by rw [lo]; omega⟩) (by omega) (by rw [g38, lo]; congr 2; omega) gx38 (Chg.refl _ _) (by omega) fun H' c' g' => ?_
  rw [h30]
  dsimp only
  rw [Gx.w1 (by omega)]
  simp only [openP]
  have lr : (repP q.2.1 q.2.2 (out ++ q.1)).length = (out ++ q.1).length + q.2.2 := repP_len _ _ _
  rw [← lr] at g' ⊢
  have nz := c'.nx
  refine ih (i + 1) (repP q.2.1 q.2.2 (out ++ q.1)) H' (by omega) (by omega) (by rw [lr, lo]; exact hq2) g' ?_ (by omega) (kH38.keepsS c' fun z hz => by have hz : z = ob := hz; omega) hl
  exact ((R.keeps k35).chg c38 fun z hz e => hy z hz e).chg c' fun z hz e => hy z hz e
end
theorem unpack_spec {k : Nat} {s : ByteArray} {h : AHeap} (D : CallF) (hk : 1048578 ≤ k) (hs : s.size ≤ 4000) (long : Int) :
  Gx.Wp (lz_Unpack k D s long h) fun z => Keeps h z.2 ∧ match unpB (bl s) long with
   | some r => z.1 = (⟨⟨r⟩⟩, 0)
   | none => z.1.1 = ⟨#[]⟩ ∧ z.1.2 ≠ 0 := by
 simp only [lz_Unpack]
 refine Wp.jn fun j5 h5 => ?_
 have j5t : ∀ y, y = true → (long < 0 ∨ long > 1048576) → Gx.Wp (j5 s long y h) fun z => Keeps h z.2 ∧ match unpB (bl s) long with
   | some r => z.1 = (⟨⟨r⟩⟩, 0)
   | none => z.1.1 = ⟨#[]⟩ ∧ z.1.2 ≠ 0 := by
  intro y hy hl
  rw [h5]
  refine .ifp hy (.of ⟨Chg.refl _ _, ?_⟩)
  have : unpB (bl s) long = none := by
   cases hu : unpB (bl s) long with
   | none => rfl
   | some r => have := unpB_len hu; omega
  rw [this]
  exact ⟨rfl, show (1 : Int) ≠ 0 by decide⟩
 by_cases c1 : long < 0
 ·exact .ifp (by simpa using c1) (j5t true rfl (.inl c1))
 refine .ifn (by simpa using c1) ?_
 by_cases c2 : long > 1048576
 ·exact j5t _ (by simpa using c2) (.inr c2)
 rw [h5]
 refine .ifn (by simpa using c2) (.call (parse_spec D (by omega) hs) fun r6 ⟨k6, h6⟩ => Wp.jn fun j11 h11 => ?_)
 have j11t : ∀ l y, y = true → unpB (bl s) long = none → Gx.Wp (j11 long l y r6.2) fun z => Keeps h z.2 ∧ match unpB (bl s) long with
   | some r => z.1 = (⟨⟨r⟩⟩, 0)
   | none => z.1.1 = ⟨#[]⟩ ∧ z.1.2 ≠ 0 := by
  intro l y hy hn
  rw [h11, hn]
  exact .ifp hy (.of ⟨k6, rfl, show (120 : Int) ≠ 0 by decide⟩)
 cases hu : unz (bl s) with
 | none =>
  rw [hu] at h6
  exact .ifp (by rw [h6]; rfl) (j11t _ _ rfl (by unfold unpB; rw [hu]))
 | some x =>
  obtain ⟨qs, n⟩ := x
  rw [hu] at h6
  obtain ⟨sl, h6, A6⟩ := h6
  rw [h6]
  refine .ifn (by simp) ?_
  by_cases c3 : long = (n : Int)
  rotate_left
  ·exact j11t _ _ (by simp; omega) (by unfold unpB; rw [hu]; simp only []; rw [if_neg (fun q => c3 q.1)])
  subst c3
  have eu : unpB (bl s) (n : Int) = some (openP qs []) := by unfold unpB; rw [hu]; simp only []; rw [if_pos ⟨trivial, by omega⟩]
  rw [eu, h11]
  refine .ifn (by simp) (.ifp (by omega) (Wp.newE fun h12 e12 k12 n12 g12 => Wp.jn fun j15 h15 => ?_))
  obtain ⟨pt, pk⟩ := parse_tot (qs := qs) (n := n) hu
  have pl := (parse_long (qs := qs) (n := n) hu).2
  unfold lz_Unpack_l0
  have A12 := A6.keeps k12
  have hql : qs.length ≤ 4000 := Nat.le_trans (parse_cnt (qs := qs) (n := n) hu) (by rw [bl_length]; exact hs)
  obtain ⟨bot, eb⟩ := iterK_of (fun _ _ _ _ _ _ => none) (lz_Unpack_l0b k D j15) (show qs.length + 1 ≤ k by omega)
  rw [eb, Int.toNat_natCast]
  have g0 : h12.get r6.2.next = some (filB [] (n - 0)) := by
   rw [g12, filB]
   simp [zeros_bytes]
  refine .mono (seq_loop (N := n) h15 hk (by omega) (h0 := r6.2) (Nat.le_refl _) (fun a ha e => by have := (A6.lt a ha).1; omega) bot qs.length 0 [] h12 (by omega) (by simp; omega) (by simpa using pk) g0 (A12.row encQ_len) (by omega) k12 (by omega)) fun z ⟨w1, w2⟩ => ⟨k6.trans w2, ?_⟩
  rw [w1]; simp
end Ge
namespace Ge
open Go Gx
section
variable {k p : Nat} {h : AHeap} {s : ByteArray}
end
end Ge
namespace Ge
open Go Gx
theorem acc_bytes {base : Nat} {h : AHeap} {s : Slc} {xs : List UInt8} {e : TypeId} (A : Acc encB e base h s xs) : bytesOf h s = some ⟨⟨xs⟩⟩ := by
 rcases A.st with ⟨rfl, rfl⟩ | ⟨b, g⟩
 ·rfl
 ·rw [g.s]; exact bytesOf_out g.2
section
variable {k : Nat} {D : CallF} {h0 : AHeap} {l : Slc} {qs : List Sq}
end
end Ge
namespace Ge
open Go Gx
def vI (n : Nat) : Value := .int .i64 (n : Int)
theorem four_len {l : List UInt8} {i : Nat} (h : i + 4 ≤ l.length) : (four l i).length = 4 := by simp [four]; omega
theorem four_eq {l : List UInt8} {i : Nat} {a b c d : UInt8} (ha : l[i]? = some a) (hb : l[i + 1]? = some b) (hc : l[i + 2]? = some c) (hd : l[i + 3]? = some d) : four l i = [a, b, c, d] := by
 unfold four
 rw [dropc ha, dropc hb, dropc hc, dropc hd]; rfl
section
variable {k pb : Nat} {h : AHeap} {s : ByteArray} {m : Option Nat}
theorem four_spec (D : CallF) (g : h.get pb = some (.cells [.string s, .map m] 75 true 0)) (hl : pb < h.next) {i : Nat} (hi : i + 4 ≤ s.size) (hs : s.size ≤ 1048576) :
  Gx.Wp (lz_packer_four k D (some ⟨pb, 0, none⟩) (i : Int) h) fun z => Value.agg ⟨[.int .u8 z.1.1, .int .u8 z.1.2.1, .int .u8 z.1.2.2.1, .int .u8 z.1.2.2.2]⟩ = keyV (four (bl s) i) ∧ Keeps h z.2 := by
 simp only [lz_packer_four]
 obtain ⟨a, ha⟩ := isome (l := bl s) (i := i) (by rw [bl_length]; omega)
 obtain ⟨b, hb⟩ := isome (l := bl s) (i := i + 1) (by rw [bl_length]; omega)
 obtain ⟨c, hc⟩ := isome (l := bl s) (i := i + 2) (by rw [bl_length]; omega)
 obtain ⟨d, hd⟩ := isome (l := bl s) (i := i + 3) (by rw [bl_length]; omega)
 refine Wp.newE fun h1 e1 k1 n1 g1 => ?_
 have g' := k1.got hl g
 rw [Gx.w1 (by omega), show IntKind.wrap .i64 ((i : Int) + 2) = ((i + 2 : Nat) : Int) by rw [Gx.w64 _ (by omega)]; omega, show IntKind.wrap .i64 ((i : Int) + 3) = ((i + 3 : Nat) : Int) by rw [Gx.w64 _ (by omega)]; omega]
 refine .bnd rfl (.bnd (ldS_at g' rfl) (.bnd (idxS_of ha) (.bnd rfl (.bnd (ldS_at g' rfl) (.bnd (idxS_of hb) (.bnd rfl (.bnd (ldS_at g' rfl) (.bnd (idxS_of hc) (.bnd rfl (.bnd (ldS_at g' rfl) (.bnd (idxS_of hd) ?_)))))))))))
 refine Wp.stL g1 rfl rfl rfl (by decide) fun h14 c14 n14 g14 => .bnd (sldA_at g14 rfl) (.bnd (show decC [.i .u8, .i .u8, .i .u8, .i .u8] _ = some ((a.toNat : Int), (b.toNat : Int), (c.toNat : Int), (d.toNat : Int)) from rfl) (.of ⟨?_, k1.keepsS c14 fun y hy => by subst hy; omega⟩))
 rw [four_eq ha hb hc hd]; rfl
theorem alike_spec (D : CallF) (g : h.get pb = some (.cells [.string s, .map m] 75 true 0)) {f i : Nat} (hf : f < i) (hi : i ≤ s.size) (hs : s.size ≤ 1048576) (hk : s.size + 2 ≤ k) :
  lz_packer_alike k D (some ⟨pb, 0, none⟩) (f : Int) (i : Int) h = some (((lcp ((bl s).drop f) ((bl s).drop i) : Nat) : Int), h) := by
 simp only [lz_packer_alike]
 refine jn ?_
 obtain ⟨j3, h3⟩ : ∃ j3, j3 = (fun (n1 : Int) (h2 : AHeap) => some (n1, h2)) := ⟨_, rfl⟩
 rw [← h3]
 unfold lz_packer_alike_l0
 obtain ⟨bot, eb⟩ := iterK_of (fun _ _ _ _ _ => none) (lz_packer_alike_l0b k D j3) (show (s.size - i) + 1 ≤ k by omega)
 rw [eb]
 have loop : ∀ d n : Nat, i + n + d = s.size → iterK bot (d + 1) (lz_packer_alike_l0b k D j3) (some ⟨pb, 0, none⟩) (f : Int) (i : Int) (n : Int) h = some (((n + lcp ((bl s).drop (f + n)) ((bl s).drop (i + n)) : Nat) : Int), h) := fun d => by
  induction d with
  | zero =>
   intro n hd
   rw [iterK_s]; simp only [lz_packer_alike_l0b]
   refine jn ?_
   have e2 : (bl s).drop (i + n) = [] := List.drop_of_length_le (by rw [bl_length]; omega)
   have e3 : lcp ((bl s).drop (f + n)) [] = 0 := by cases (bl s).drop (f + n) <;> rfl
   rw [show IntKind.wrap .i64 ((i : Int) + (n : Int)) = ((i + n : Nat) : Int) by rw [Gx.w64 _ (by omega)]; omega]
   refine bnd rfl (bnd (ldS_at g rfl) (ifn (by simp; omega) (ifn (by decide) ?_)))
   rw [h3, e2, e3]; rfl
  | succ d ih =>
   intro n hd
   rw [iterK_s]; simp only [lz_packer_alike_l0b]
   refine jn ?_
   obtain ⟨a, ha⟩ := isome (l := bl s) (i := f + n) (by rw [bl_length]; omega)
   obtain ⟨b, hb⟩ := isome (l := bl s) (i := i + n) (by rw [bl_length]; omega)
   rw [show IntKind.wrap .i64 ((i : Int) + (n : Int)) = ((i + n : Nat) : Int) by rw [Gx.w64 _ (by omega)]; omega, show IntKind.wrap .i64 ((f : Int) + (n : Int)) = ((f + n : Nat) : Int) by rw [Gx.w64 _ (by omega)]; omega]
   refine bnd rfl (bnd (ldS_at g rfl) (ifp (by simp; omega) (bnd rfl (bnd (ldS_at g rfl) (bnd (idxS_of ha) (bnd rfl (bnd (ldS_at g rfl) (bnd (idxS_of hb) ?_))))))))
   rw [dropc ha, dropc hb]
   unfold lcp
   by_cases c : a = b
   ·rw [if_pos c]
    refine ifp (by rw [c]; simp) ?_
    rw [Gx.w1 (by omega), ih (n + 1) (by omega)]
    congr 3
    rw [show f + (n + 1) = f + n + 1 by omega, show i + (n + 1) = i + n + 1 by omega]
    omega
   ·rw [if_neg c]
    refine ifn ?_ ?_
    ·have : ¬ a.toNat = b.toNat := fun q => c (UInt8.toNat_inj.1 q)
     simp; omega
    ·rw [h3]; rfl
 have := loop (s.size - i) 0 (by omega)
 rw [Nat.add_zero, Nat.add_zero, Nat.zero_add] at this
 exact this
theorem best_spec (D : CallF) {mb : Nat} (g : h.get pb = some (.cells [.string s, .map (some mb)] 75 true 0)) (hl : pb < h.next) (hm : mb < h.next) {es : List Fr} (M : MapAt keyV vI h mb es) (k4 : ∀ e ∈ es, e.1.length = 4) {i : Nat} (ha : Ahead i es) (hi : i + 4 ≤ s.size) (hs : s.size ≤ 1048576) (hk : s.size + 100 ≤ k) :
  Gx.Wp (lz_packer_best k D (some ⟨pb, 0, none⟩) (i : Int) h) fun z => z.1 = (((bestF (bl s) i es).1 : Int), ((bestF (bl s) i es).2 : Int)) ∧ Keeps h z.2 := by
 simp only [lz_packer_best]
 refine Wp.jn fun j6 h6 => ?_
 unfold lz_packer_best_l0
 obtain ⟨n0, en0⟩ : ∃ n0, n0 = min 64 i := ⟨_, rfl⟩
 have en : (if (i : Int) < 64 then (i : Int) else 64) = (n0 : Int) := by
  by_cases z : i < 64
  ·rw [if_pos (by omega)]; omega
  ·rw [if_neg (by omega)]; omega
 obtain ⟨bot, eb⟩ := iterK_of (fun _ _ _ _ _ _ => none) (lz_packer_best_l0b k D j6) (show n0 + 1 ≤ k by omega)
 rw [eb]
 have fin : Gx.Wp (j6 (some ⟨pb, 0, none⟩) (i : Int) ((bestA (bl s) i n0).1 : Int) ((bestA (bl s) i n0).2 : Int) h) fun z => z.1 = (((bestF (bl s) i es).1 : Int), ((bestF (bl s) i es).2 : Int)) ∧ Keeps h z.2 := by
  rw [h6]
  refine .call (four_spec D g hl hi hs) fun r7 ⟨q7, k7⟩ => ?_
  have g7 := k7.got hl g
  have M7 := M.chg k7 hm (fun f => f)
  have lm : ldM ⟨pb, 0 + 1, none⟩ h = some (some mb) := ldM_at g rfl
  refine .bnd rfl (.bnd (ldM_at g7 rfl) (.gp (ssw1 (by dsimp only; rw [lm]; rfl)) ?_))
  rw [q7]
  have l4 := four_len (l := bl s) (i := i) (by rw [bl_length]; omega)
  have kq : ∀ e ∈ es, keyEq (keyV (four (bl s) i)) (keyV e.1) = some (decide (e.1 = four (bl s) i)) := fun e he => keyEq_V (by rw [l4, k4 e he])
  have lk := M7.look kq (dec := decI .i64) (dv := fun n : Nat => (n : Int)) (fun v => rfl) (z := .int .i64 0) (z0 := 0) rfl
  refine .bnd lk (Wp.jn fun j16 h16 => Wp.jn fun j24 h24 => ?_)
  have hb := bestA_ok (bl s) i (min 64 i) (by omega) (by omega)
  have ebF : bestF (bl s) i es = match lkM (four (bl s) i) es with
   | some v => if i - v ≤ 65535 ∧ (bestA (bl s) i n0).2 < lcp ((bl s).drop v) ((bl s).drop i) then (i - v, lcp ((bl s).drop v) ((bl s).drop i)) else bestA (bl s) i n0
   | none => bestA (bl s) i n0 := by rw [en0]; rfl
  cases hv : lkM (four (bl s) i) es with
  | none =>
   refine .ifn (by simp) ?_
   rw [h24]
   refine .ifn (by simp) ?_
   rw [h16]
   exact .of ⟨by rw [ebF, hv], k7⟩
  | some v =>
   obtain ⟨e, he, _, e2⟩ := lkM_mem hv
   have hvi := ha e he
   have ebF : bestF (bl s) i es = if i - v ≤ 65535 ∧ (bestA (bl s) i n0).2 < lcp ((bl s).drop v) ((bl s).drop i) then (i - v, lcp ((bl s).drop v) ((bl s).drop i)) else bestA (bl s) i n0 := by rw [ebF, hv]
   refine .ifp rfl ?_
   rw [h24]
   simp only []
   rw [show IntKind.wrap .i64 ((i : Int) - (v : Int)) = ((i - v : Nat) : Int) by rw [Gx.w64 _ (by omega)]; omega]
   by_cases c1 : i - v ≤ 65535
   ·refine .ifp (by simp; omega) (.bnd (alike_spec D g7 (by omega) (by omega) hs (by omega)) ?_)
    by_cases c2 : (bestA (bl s) i n0).2 < lcp ((bl s).drop v) ((bl s).drop i)
    ·rw [if_pos ⟨c1, c2⟩] at ebF
     rw [h16]
     exact .ifp (by simp; omega) (.of ⟨by rw [ebF], k7⟩)
    ·rw [if_neg (fun q => c2 q.2)] at ebF
     rw [h16]
     exact .ifn (by simp; omega) (.of ⟨by rw [ebF], k7⟩)
   ·rw [if_neg (fun q => c1 q.1)] at ebF
    refine .ifn (by simp; omega) ?_
    rw [h16]
    exact .of ⟨by rw [ebF], k7⟩
 have loop : ∀ d n : Nat, n + d = n0 → Gx.Wp (iterK bot (d + 1) (lz_packer_best_l0b k D j6) (some ⟨pb, 0, none⟩) (i : Int) ((bestA (bl s) i n).1 : Int) ((bestA (bl s) i n).2 : Int) ((n + 1 : Nat) : Int) h) fun z => z.1 = (((bestF (bl s) i es).1 : Int), ((bestF (bl s) i es).2 : Int)) ∧ Keeps h z.2 := fun d => by
  induction d with
  | zero =>
   intro n hd
   rw [iterK_s]; simp only [lz_packer_best_l0b]
   rw [en]
   refine .ifn (by simp; omega) ?_
   obtain rfl : n = n0 := by omega
   exact fin
  | succ d ih =>
   intro n hd
   rw [iterK_s]; simp only [lz_packer_best_l0b]
   rw [en]
   refine .ifp (by simp; omega) (Wp.jn fun j39 h39 => ?_)
   rw [show IntKind.wrap .i64 ((i : Int) - ((n + 1 : Nat) : Int)) = ((i - (n + 1) : Nat) : Int) by rw [Gx.w64 _ (by omega)]; omega]
   refine .bnd (alike_spec D g (by omega) (by omega) hs (by omega)) ?_
   have := ih (n + 1) (by omega)
   rw [h39]
   dsimp only
   rw [Gx.w1 (by omega)]
   unfold bestA at this
   by_cases c : (bestA (bl s) i n).2 < lcp ((bl s).drop (i - (n + 1))) ((bl s).drop i)
   ·rw [if_pos c] at this
    exact .ifp (by simp; omega) this
   ·rw [if_neg c] at this
    exact .ifn (by simp; omega) this
 exact loop n0 0 (by omega)
end
end Ge
namespace Ge
open Go Gx
structure WB (H : AHeap) (wb : Nat) (o : Slc) (out : List UInt8) : Prop where
 g : H.get wb = some (.cells [.slice o.a o.len o.cap] 78 true 0)
 A : Acc encB 5 (wb + 1) H o out
 lt : wb < H.next
section
variable {k wb : Nat} {H H' : AHeap} {o : Slc} {out : List UInt8} {D : CallF}
theorem WB.keeps (B : WB H wb o out) (c : Keeps H H') : WB H' wb o out := ⟨c.got B.lt B.g, B.A.keeps c, Nat.lt_of_lt_of_le B.lt c.nx⟩
theorem WB.chg {S : Nat → Prop} (B : WB H wb o out) (c : Chg S H H') (h1 : ∀ y, S y → y < wb ∨ H.next ≤ y) : WB H' wb o out := by
 refine ⟨c.got B.lt (fun q => ?_) B.g, B.A.chg c fun a ha q => ?_, Nat.lt_of_lt_of_le B.lt c.nx⟩
 ·have := h1 _ q; have := B.lt; omega
 ·have := h1 _ q; have := B.A.lt a ha; omega
theorem WB.app (B : WB H wb o out) {ys : List UInt8} (hs : 2 * (out.length + ys.length) * 1 ≤ 281474976710656) :
  ∃ o' h1, appendA 1 1 5 H o (ys.map encB) ys.length = some (o', h1) ∧ ∃ h2, st1 ⟨wb, 0, none⟩ (.slice o'.a o'.len o'.cap) h1 = some h2 ∧ WB h2 wb o' (out ++ ys) ∧ Chg (fun y => wb ≤ y) H h2 := by
 obtain ⟨o', h1, a, A', c, d⟩ := B.A.app (fun _ => rfl) ys hs (by decide) B.lt
 have no : ¬ ofS o wb := fun ⟨z, hz, e⟩ => by have := (B.A.lt z hz).2; omega
 have g1 := c.got B.lt no B.g
 have nx := c.nx
 refine ⟨o', h1, a, _, st1_of g1 (by simp) rfl, ⟨by simp, A'.chg (Chg.set (S := (· = wb)) (.inr rfl)) fun z hz e => ?_, by show wb < h1.next; have := B.lt; omega⟩, ?_⟩
 ·have e : z.block = wb := e
  have := (A'.lt z hz).2
  omega
 ·refine Chg.trans (c.wk fun y _ ⟨z, hz, e⟩ => by have := (B.A.lt z hz).2; omega) (Chg.set (.inr (Nat.le_refl _)))
theorem atWb {h h' : AHeap} (c : Keeps h h') : Chg (fun y => wb ≤ y) h h' := Chg.keeps c
theorem WB.put {R : Type} {Q : R → Prop} (B : WB H wb o out) {ys : List UInt8} (hs : 2 * (out.length + ys.length) * 1 ≤ 281474976710656) {f : AHeap → Option R} (J : ∀ o' h2, WB h2 wb o' (out ++ ys) → Chg (fun y => wb ≤ y) H h2 → Gx.Wp (f h2) Q) :
  Gx.Wp ((appendA 1 1 5 H o (ys.map encB) ys.length).bind fun r => (some (⟨wb, 0, none⟩ : Addr)).bind fun p => (st1 (⟨p.block, p.off + 0, none⟩ : Addr) (.slice r.1.a r.1.len r.1.cap) r.2).bind f) Q := by
 obtain ⟨o', h1, a, h2, b, B', c⟩ := B.app hs
 exact .bnd a (.bnd rfl (.bnd b (J o' h2 B' c)))
theorem rdS_bytes {h : AHeap} {n : Nat} {l : List UInt8} (hn : l.length = n) (g : H = h.new (.cells (l.map encB) 5 true 0)) : Gx.rdS 1 ⟨some ⟨h.next, 0, some 0⟩, n, n⟩ H = some (l.map encB) := by
 subst hn; subst g
 have := rdL_all (h := h.new (.cells (l.map encB) 5 true 0)) (b := h.next) (c := l.map encB) (e := 5) (r := true) (fz := 0) (by simp)
 simpa [Gx.rdS] using this
theorem wrap8 (n : Nat) : Value.int .u8 (IntKind.wrap .u8 (n : Int)) = encB (UInt8.ofNat n) := by
 unfold encB
 rw [UInt8.toNat_ofNat', IntKind.wrap_u8]
 rfl
theorem wnumber_spec (B : WB H wb o out) {n : Nat} (hn : n ≤ 3000000) (ho : out.length ≤ 4000000) (hk : 20000 ≤ k) :
  Gx.Wp (lz_writer_number k D (some ⟨wb, 0, none⟩) (n : Int) H) fun z => ∃ o', WB z.2 wb o' (out ++ numB n) ∧ Chg (fun y => wb ≤ y) H z.2 := by
 simp only [lz_writer_number]
 by_cases c : n < 15
 ·refine .ifp (by simp; omega) (.of ⟨o, ?_, Chg.refl _ _⟩)
  rw [numB, if_pos c, List.append_nil]; exact B
 ·refine .ifn (by simp; omega) (Wp.jn fun j4 h4 => ?_)
  rw [show IntKind.wrap .i64 ((n : Int) - 15) = ((n - 15 : Nat) : Int) by rw [Gx.w64 _ (by omega)]; omega]
  unfold lz_writer_number_l0
  obtain ⟨q, eq⟩ : ∃ q, q = (n - 15) / 255 := ⟨_, rfl⟩
  obtain ⟨bot, eb⟩ := iterK_of (fun _ _ _ => none) (lz_writer_number_l0b k D j4) (show q + 1 ≤ k by omega)
  rw [eb, numB, if_neg c]
  have loop : ∀ (d : Nat) (o : Slc) (out : List UInt8) (H1 : AHeap) (m : Nat), m / 255 = d → m ≤ 3000000 → out.length + d ≤ 5000000 → WB H1 wb o out → Chg (fun y => wb ≤ y) H H1 →
    Gx.Wp (iterK bot (d + 1) (lz_writer_number_l0b k D j4) (some ⟨wb, 0, none⟩) (m : Int) H1) fun z => ∃ o', WB z.2 wb o' (out ++ (List.replicate d 255 ++ [UInt8.ofNat (m % 255)])) ∧ Chg (fun y => wb ≤ y) H z.2 := fun d => by
   induction d with
   | zero =>
    intro o out H1 m hd hm hl B cc
    rw [iterK_s]; simp only [lz_writer_number_l0b]
    refine .ifn (by simp; omega) ?_
    rw [h4]
    refine .bnd rfl (.bnd (sldL_at B.g rfl) (Wp.newE fun h7 e7 k7 n7 g7 => ?_))
    rw [wrap8] at e7
    refine .bnd (rdS_bytes (l := [UInt8.ofNat m]) rfl e7) ((B.keeps k7).put (ys := [UInt8.ofNat m]) (by simp; omega) fun o' h2 B' c' => .of ⟨o', ?_, (cc.trans (atWb k7)).trans c'⟩)
    rw [List.replicate_zero, List.nil_append, show m % 255 = m by omega]
    exact B'
   | succ d ih =>
    intro o out H1 m hd hm hl B cc
    rw [iterK_s]; simp only [lz_writer_number_l0b]
    refine .ifp (by simp; omega) (.bnd rfl (.bnd (sldL_at B.g rfl) (Wp.newE fun h7 e7 k7 n7 g7 => ?_)))
    refine .bnd (rdS_bytes (l := [255]) rfl e7) ((B.keeps k7).put (ys := [255]) (by simp; omega) fun o' h2 B' c' => ?_)
    rw [show IntKind.wrap .i64 ((m : Int) - 255) = ((m - 255 : Nat) : Int) by rw [Gx.w64 _ (by omega)]; omega]
    refine .mono (ih o' (out ++ [255]) h2 (m - 255) (by omega) (by omega) (by simp; omega) B' ((cc.trans (atWb k7)).trans c')) fun z ⟨o2, w1, w2⟩ => ⟨o2, ?_, w2⟩
    have e : out ++ [255] ++ (List.replicate d 255 ++ [UInt8.ofNat ((m - 255) % 255)]) = out ++ (List.replicate (d + 1) 255 ++ [UInt8.ofNat (m % 255)]) := by
     rw [show (m - 255) % 255 = m % 255 by omega, List.replicate_succ]
     simp
    rw [← e]
    exact w1
  have := loop q o out H (n - 15) eq.symm (by omega) (by omega) B (Chg.refl _ _)
  rw [← eq]
  exact this
theorem tokOr : ∀ a b : Fin 16, Go.bits .or .i64 (IntKind.wrap .i64 ((a.val : Int) * 16)) (b.val : Int) = ((a.val * 16 + b.val : Nat) : Int) := by decide +kernel
theorem numB_len (n : Nat) : (numB n).length ≤ n + 1 := by
 unfold numB
 split
 ·simp
 ·simp; omega
theorem sequence_spec (B : WB H wb o out) (ls : ByteArray) (hls : ls.size ≤ 1048576) {d n : Nat} (hd : d ≤ 65535) (hn : 4 ≤ n ∨ d = 0) (hn2 : n ≤ 1048576) (ho : out.length ≤ 1500000) (hk : 20000 ≤ k) :
  Gx.Wp (lz_writer_sequence k D (some ⟨wb, 0, none⟩) ls (d : Int) (n : Int) H) fun z => ∃ o', WB z.2 wb o' (out ++ seqB (bl ls) d n) ∧ Chg (fun y => wb ≤ y) H z.2 := by
 simp only [lz_writer_sequence]
 obtain ⟨a, ea⟩ : ∃ a, a = min ls.size 15 := ⟨_, rfl⟩
 have e1 : (if (15 : Int) < (ls.size : Int) then (15 : Int) else (ls.size : Int)) = (a : Int) := by
  by_cases z : 15 < ls.size
  ·rw [if_pos (by omega)]; omega
  ·rw [if_neg (by omega)]; omega
 rw [e1]
 refine Wp.jn fun j8 h8 => ?_
 have J : ∀ t : Int, Value.int .u8 (IntKind.wrap .u8 t) = encB (tokB (bl ls).length d n) → Gx.Wp (j8 (some ⟨wb, 0, none⟩) ls (d : Int) (n : Int) t H) fun z => ∃ o', WB z.2 wb o' (out ++ seqB (bl ls) d n) ∧ Chg (fun y => wb ≤ y) H z.2 := by
  intro t ht
  rw [h8]
  have ll : (bl ls).length = ls.size := bl_length ls
  have lnb := numB_len ls.size
  have lnb2 := numB_len (n - 4)
  refine .bnd rfl (.bnd (sldL_at B.g rfl) (Wp.newE fun h11 e11 k11 n11 g11 => ?_))
  rw [ht] at e11
  refine .bnd (rdS_bytes (l := [tokB (bl ls).length d n]) rfl e11) ((B.keeps k11).put (ys := [tokB (bl ls).length d n]) (by simp; omega) fun o1 h15 B1 c1 => ?_)
  have x1 : Chg (fun y => wb ≤ y) H h15 := (atWb k11).trans c1
  refine .call (wnumber_spec B1 (by omega) (by simp; omega) hk) fun r16 ⟨o2, B2, c2⟩ => ?_
  refine .bnd rfl (.bnd (sldL_at B2.g rfl) ?_)
  rw [bytesL_bl]
  refine B2.put (ys := bl ls) (by simp; omega) fun o3 h21 B3 c3 => ?_
  have x3 : Chg (fun y => wb ≤ y) H h21 := (x1.trans c2).trans c3
  have es : out ++ [tokB (bl ls).length d n] ++ numB ls.size ++ bl ls = out ++ (tokB (bl ls).length d n :: numB (bl ls).length ++ bl ls) := by rw [ll]; simp
  rw [es] at B3
  by_cases c : d = 0
  ·refine .ifn (by simp; omega) (.of ⟨o3, ?_, x3⟩)
   subst c
   unfold seqB
   rw [if_neg (by omega), List.append_nil]
   exact B3
  ·refine .ifp (by simp; omega) (.bnd rfl (.bnd (sldL_at B3.g rfl) (Wp.newE fun h24 e24 k24 n24 g24 => ?_)))
   rw [show Int.fdiv (d : Int) 256 = ((d / 256 : Nat) : Int) by rw [Int.fdiv_eq_ediv_of_nonneg _ (by decide)]; omega, wrap8, wrap8] at e24
   have e25 : UInt8.ofNat d = UInt8.ofNat (d % 256) := by
    apply UInt8.toNat_inj.1
    rw [UInt8.toNat_ofNat', UInt8.toNat_ofNat']; omega
   have lo3 : (out ++ (tokB (bl ls).length d n :: numB (bl ls).length ++ bl ls)).length ≤ out.length + 1 + (ls.size + 1) + ls.size := by
    simp only [List.length_append, List.length_cons]; rw [ll]; omega
   refine .bnd (rdS_bytes (l := [UInt8.ofNat d, UInt8.ofNat (d / 256)]) rfl e24) ((B3.keeps k24).put (ys := [UInt8.ofNat d, UInt8.ofNat (d / 256)]) (by simp only [List.length_cons, List.length_nil]; omega) fun o4 h28 B4 c4 => ?_)
   rw [show IntKind.wrap .i64 ((n : Int) - 4) = ((n - 4 : Nat) : Int) by rw [Gx.w64 _ (by omega)]; omega]
   refine .call (wnumber_spec B4 (by omega) (by rw [List.length_append]; simp only [List.length_cons, List.length_nil]; omega) hk) fun r29 ⟨o5, B5, c5⟩ => .of ⟨o5, ?_, ((x3.trans (atWb k24)).trans c4).trans c5⟩
   unfold seqB
   rw [if_pos (by omega), ← e25]
   have : out ++ (tokB (bl ls).length d n :: numB (bl ls).length ++ bl ls) ++ [UInt8.ofNat d, UInt8.ofNat (d / 256)] ++ numB (n - 4) = out ++ (tokB (bl ls).length d n :: numB (bl ls).length ++ bl ls ++ UInt8.ofNat d :: UInt8.ofNat (d / 256) :: numB (n - 4)) := by simp
   rw [← this]
   exact B5
 have ll : (bl ls).length = ls.size := bl_length ls
 by_cases c : d = 0
 ·refine .ifn (by simp; omega) (J _ ?_)
  have : IntKind.wrap .i64 ((a : Int) * 16) = ((a * 16 : Nat) : Int) := by rw [Gx.w64 _ (by omega)]; omega
  rw [this, wrap8]
  unfold tokB
  rw [ll, if_neg (by omega), ea]; rfl
 ·refine .ifp (by simp; omega) ?_
  obtain ⟨b, eb⟩ : ∃ b, b = min (n - 4) 15 := ⟨_, rfl⟩
  have hn' := hn.resolve_right c
  have e2 : (if (15 : Int) < IntKind.wrap .i64 ((n : Int) - 4) then (15 : Int) else IntKind.wrap .i64 ((n : Int) - 4)) = (b : Int) := by
   rw [Gx.w64 _ (by omega)]
   by_cases z : 15 < n - 4
   ·rw [if_pos (by omega)]; omega
   ·rw [if_neg (by omega)]; omega
  simp only [e2]
  refine J _ ?_
  have eo : Go.bits .or .i64 (IntKind.wrap .i64 ((a : Int) * 16)) (b : Int) = ((a * 16 + b : Nat) : Int) := tokOr ⟨a, by omega⟩ ⟨b, by omega⟩
  rw [eo, wrap8]
  unfold tokB
  rw [ll, if_pos (by omega), ea, eb]
end
end Ge
namespace Ge
open Go Gx
theorem seqB_len {l : List UInt8} {d n : Nat} (hn : 4 ≤ n) : (seqB l d n).length ≤ 2 * (l.length + n) := by
 have h1 := numB_len l.length
 have h2 := numB_len (n - 4)
 unfold seqB
 split
 ·simp only [List.length_append, List.length_cons]; omega
 ·simp only [List.length_append, List.length_cons, List.length_nil]; omega
structure PK (h0 H : AHeap) (mb pb wb : Nat) (s : ByteArray) (es : List Fr) (o : Slc) (out : List UInt8) : Prop where
 kp : Keeps h0 H
 m : MapAt keyV vI H mb es
 p : H.get pb = some (.cells [.string s, .map (some mb)] 75 true 0)
 W : WB H wb o out
 lm : mb < pb
 lp : pb < wb
 lh : h0.next ≤ mb
 k4 : ∀ e ∈ es, e.1.length = 4
section
variable {k mb pb wb : Nat} {s : ByteArray} {es : List Fr} {o : Slc} {out : List UInt8} {D : CallF} {h0 H H' : AHeap}
theorem PK.keeps (P : PK h0 H mb pb wb s es o out) (c : Keeps H H') : PK h0 H' mb pb wb s es o out :=
 have := P.W.lt; have := P.lm; have := P.lp
 ⟨P.kp.trans c, P.m.chg c (by omega) (fun f => f), c.got (by omega) P.p, P.W.keeps c, P.lm, P.lp, P.lh, P.k4⟩
theorem keepsAll {h0 H H' : AHeap} {n : Nat} (k : Keeps h0 H) (c : Chg (fun y => n ≤ y) H H') (h : h0.next ≤ n) : Keeps h0 H' := k.keepsS c fun y hy => by have hy : n ≤ y := hy; omega
theorem put_loop {Q : (ByteArray × Int) × AHeap → Prop} {rec20 : ByteArray → (Option Addr) → (Option Addr) → Int → Int → AHeap → Option ((ByteArray × Int) × AHeap)} (kept : Int) (step : Nat) (hs : s.size ≤ 1048576) (hst : step ≤ 1048576) (bot) :
  ∀ (d j i : Nat) (es : List Fr) (H : AHeap), j + d = step → i + d ≤ s.size → PK h0 H mb pb wb s es o out → (∀ H', PK h0 H' mb pb wb s (putN (bl s) d i es) o out → Gx.Wp (rec20 s (some ⟨pb, 0, none⟩) (some ⟨wb, 0, none⟩) kept ((i + d : Nat) : Int) H') Q) →
  Gx.Wp (iterK bot (d + 1) (lz_Pack_l1b k D rec20) s (some ⟨pb, 0, none⟩) (some ⟨wb, 0, none⟩) kept (i : Int) (step : Int) (j : Int) H) Q := by
 intro d
 induction d with
 | zero =>
  intro j i es H hd hi P J
  rw [iterK_s]; simp only [lz_Pack_l1b]
  exact .ifn (by simp; omega) (J H P)
 | succ d ih =>
  intro j i es H hd hi P J
  rw [iterK_s]; simp only [lz_Pack_l1b]
  refine .ifp (by simp; omega) (Wp.jn fun j48 h48 => ?_)
  have go : ∀ H', PK h0 H' mb pb wb s (put1 (bl s) i es) o out → Gx.Wp (j48 s (some ⟨pb, 0, none⟩) (some ⟨wb, 0, none⟩) kept (i : Int) (step : Int) (j : Int) H') Q := fun H' P' => by
   rw [h48]
   dsimp only
   rw [Gx.w1 (by omega), Gx.w1 (by omega)]
   refine ih (j + 1) (i + 1) _ H' (by omega) (by omega) P' fun H'' P'' => ?_
   rw [show i + 1 + d = i + (d + 1) by omega]
   exact J H'' P''
  rw [show IntKind.wrap .i64 ((i : Int) + 4) = ((i + 4 : Nat) : Int) by rw [Gx.w64 _ (by omega)]; omega]
  have wl := P.W.lt; have ml := P.lm; have pl := P.lp
  by_cases c : i + 4 ≤ s.size
  ·refine .ifp (by simp; omega) (.call (four_spec D P.p (by omega) c hs) fun r49 ⟨q49, k49⟩ => ?_)
   have P9 := P.keeps k49
   refine .bnd rfl (.bnd (ldM_at P9.p rfl) (.gp (ssw1 (by rw [ldM_at (sp := none) (o := 0 + 1) P.p rfl]; rfl)) (.bnd rfl ?_)))
   rw [q49]
   have l4 := four_len (l := bl s) (i := i) (by rw [bl_length]; omega)
   obtain ⟨h', u1, u2, u3, u4⟩ := P9.m.upd (n := four (bl s) i) (fun e he => keyEq_V (by rw [l4, P.k4 e he])) i
   refine .bnd u1 (go h' ⟨keepsAll P9.kp (u3.wk fun y _ e => (by have e : y = mb := e; omega : mb ≤ y)) P.lh, ?_, u3.got (by have := P9.W.lt; omega) (by omega) P9.p, P9.W.chg u3 fun y e => .inl (by have e : y = mb := e; omega), P.lm, P.lp, P.lh, ?_⟩)
   ·unfold put1
    rw [if_pos (by rw [bl_length]; exact c)]
    exact u2
   ·unfold put1
    rw [if_pos (by rw [bl_length]; exact c)]
    intro e he
    rcases ptM_mem he with ⟨g, _⟩ | g
    ·rw [g]; exact l4
    ·exact P.k4 e g
  ·refine .ifn (by simp; omega) (go H ?_)
   unfold put1
   rw [if_neg (by rw [bl_length]; exact c)]
   exact P
theorem pack_loop {j8 : ByteArray → (Option Addr) → Int → AHeap → Option ((ByteArray × Int) × AHeap)}
  (hj : ∀ kept H o out, kept ≤ s.size → WB H wb o out → out.length ≤ 1000000 → Keeps h0 H → Gx.Wp (j8 s (some ⟨wb, 0, none⟩) (kept : Int) H) fun z => z.1 = (⟨⟨out ++ seqB ((bl s).drop kept) 0 0⟩⟩, 0) ∧ Keeps h0 z.2) (hs : s.size ≤ 500000) (hk : 600000 ≤ k) (bot) :
  ∀ (f i kept : Nat) (es : List Fr) (o : Slc) (out : List UInt8) (H : AHeap), s.size < i + f → i ≤ s.size → kept ≤ i → Ahead i es → out.length ≤ 2 * kept → PK h0 H mb pb wb s es o out →
  Gx.Wp (iterK bot f (lz_Pack_l0b k D j8) s (some ⟨pb, 0, none⟩) (some ⟨wb, 0, none⟩) (kept : Int) (i : Int) H) fun z => z.1 = (⟨⟨packL (bl s) f i kept es out⟩⟩, 0) ∧ Keeps h0 z.2 := by
 intro f
 induction f with
 | zero => intro i kept es o out H h1 h2; omega
 | succ f ih =>
  intro i kept es o out H h1 h2 h3 ha ho P
  rw [iterK_s]; simp only [lz_Pack_l0b]
  have wl := P.W.lt; have ml := P.lm; have pl := P.lp
  have sl : (bl s).length = s.size := bl_length s
  rw [show IntKind.wrap .i64 ((i : Int) + 4) = ((i + 4 : Nat) : Int) by rw [Gx.w64 _ (by omega)]; omega]
  unfold packL
  rw [sl]
  by_cases c : i + 4 < s.size
  rotate_left
  ·rw [if_neg c]
   exact .ifn (by simp; omega) (hj kept H o out (by omega) P.W (by omega) P.kp)
  rw [if_pos c]
  refine .ifp (by simp; omega) (.call (best_spec D P.p (by omega) (by omega) P.m P.k4 ha (by omega) (by omega) (by omega)) fun r21 ⟨q21, k21⟩ => ?_)
  have P1 := P.keeps k21
  rw [q21]
  obtain ⟨m, em⟩ : ∃ m, m = min (bestF (bl s) i es).2 (s.size - 1 - i) := ⟨_, rfl⟩
  rw [← em]
  have et : IntKind.wrap .i64 ((IntKind.wrap .i64 ((s.size : Int) - 1)) - (i : Int)) = ((s.size - 1 - i : Nat) : Int) := by rw [Gx.w64 ((s.size : Int) - 1) (by omega), Gx.w64 _ (by omega)]; omega
  have em2 : (if (((s.size - 1 - i : Nat) : Int)) < ((bestF (bl s) i es).2 : Int) then (((s.size - 1 - i : Nat) : Int)) else ((bestF (bl s) i es).2 : Int)) = (m : Int) := by
   by_cases z : s.size - 1 - i < (bestF (bl s) i es).2
   ·rw [if_pos (by omega)]; omega
   ·rw [if_neg (by omega)]; omega
  simp only [et, em2]
  refine Wp.jn fun j30 h30 => ?_
  have bo := bestF_ok (s := bl s) ha
  by_cases c4 : 4 ≤ m
  ·rw [if_pos c4]
   rcases bo with b | ⟨b1, b2, b3, b4⟩
   ·omega
   refine .ifp (by simp; omega) ?_
   have es1 : Gx.subS s (some (kept : Int)) (some (i : Int)) = some ⟨⟨((bl s).take i).drop kept⟩⟩ := subS_of rfl rfl h3 h2
   have sz1 : (⟨⟨((bl s).take i).drop kept⟩⟩ : ByteArray).size = i - kept := by rw [size_mk]; simp; omega
   refine .bnd es1 (.call (sequence_spec P1.W ⟨⟨((bl s).take i).drop kept⟩⟩ (by omega) b2 (.inl c4) (by omega) (by omega) (by omega)) fun r57 ⟨o', W', c'⟩ => ?_)
   rw [bl_mk] at W'
   have P2 : PK h0 r57.2 mb pb wb s es o' (out ++ seqB (((bl s).take i).drop kept) (bestF (bl s) i es).1 m) :=
    ⟨keepsAll P1.kp c' (by have := P.lh; omega), P1.m.chg c' (by have := P1.W.lt; omega) (by omega), c'.got (by have := P1.W.lt; omega) (by omega) P1.p, W', P.lm, P.lp, P.lh, P.k4⟩
   rw [show IntKind.wrap .i64 ((i : Int) + (m : Int)) = ((i + m : Nat) : Int) by rw [Gx.w64 _ (by omega)]; omega, h30]
   dsimp only
   unfold lz_Pack_l1
   obtain ⟨bot2, eb2⟩ := iterK_of (fun _ _ _ _ _ _ _ _ => none) (lz_Pack_l1b k D (iterK bot f (lz_Pack_l0b k D j8))) (show m + 1 ≤ k by omega)
   rw [eb2]
   have sq := seqB_len (l := ((bl s).take i).drop kept) (d := (bestF (bl s) i es).1) c4
   have sl2 : (((bl s).take i).drop kept).length = i - kept := by simp; omega
   rw [show (0 : Int) = ((0 : Nat) : Int) from rfl]
   refine put_loop _ m (by omega) (by omega) bot2 m 0 i es r57.2 (by omega) (by omega) P2 fun H' P3 => ?_
   exact ih (i + m) (i + m) _ o' _ H' (by omega) (by omega) (Nat.le_refl _) (putN_ahead m i ha) (by rw [List.length_append]; omega) P3
  ·rw [if_neg c4]
   refine .ifn (by simp; omega) ?_
   rw [h30]
   dsimp only
   unfold lz_Pack_l1
   obtain ⟨bot2, eb2⟩ := iterK_of (fun _ _ _ _ _ _ _ _ => none) (lz_Pack_l1b k D (iterK bot f (lz_Pack_l0b k D j8))) (show 1 + 1 ≤ k by omega)
   rw [eb2]
   rw [show (0 : Int) = ((0 : Nat) : Int) from rfl]
   refine put_loop _ 1 (by omega) (by omega) bot2 1 0 i es r21.2 (by omega) (by omega) P1 fun H' P3 => ?_
   exact ih (i + 1) kept _ o _ H' (by omega) (by omega) (by omega) (putN_ahead 1 i ha) ho P3
end
theorem pack_spec {k : Nat} {s : ByteArray} {h : AHeap} (D : CallF) (hs : s.size ≤ 500000) (hk : 600000 ≤ k) :
  Gx.Wp (lz_Pack k D s h) fun z => z.1 = (⟨⟨packA (bl s)⟩⟩, 0) ∧ Keeps h z.2 := by
 simp only [lz_Pack]
 refine .ifn (by simp; omega) (Wp.newE fun h1 e1 k1 n1 g1 => Wp.newE fun h2 e2 k2 n2 g2 => Wp.newE fun h3 e3 k3 n3 g3 => Wp.jn fun j8 h8 => ?_)
 unfold lz_Pack_l0
 obtain ⟨bot, eb⟩ := iterK_of (fun _ _ _ _ _ _ => none) (lz_Pack_l0b k D j8) (show s.size + 1 ≤ k by omega)
 rw [eb]
 have P : PK h h3 h.next h1.next h2.next s [] ⟨none, 0, 0⟩ [] :=
  ⟨(k1.trans k2).trans k3, Keeps.got (k2.trans k3) (by omega) g1, k3.got (by omega) g2, ⟨g3, Acc.nil _ _ _ _, by omega⟩, by omega, by omega, Nat.le_refl _, fun e he => by cases he⟩
 refine .mono (pack_loop ?_ hs hk bot (s.size + 1) 0 0 [] ⟨none, 0, 0⟩ [] h3 (by omega) (by omega) (by omega) (fun e he => by cases he) (by simp) P) fun z ⟨w1, w2⟩ => ⟨?_, w2⟩
 ·intro kept H o out hkept B hl kp
  rw [h8]
  have es1 : Gx.subS s (some (kept : Int)) none = some ⟨⟨((bl s).take s.size).drop kept⟩⟩ := subS_of rfl rfl hkept (Nat.le_refl _)
  rw [List.take_of_length_le (by rw [bl_length]; exact Nat.le_refl _)] at es1
  have sz1 : (⟨⟨(bl s).drop kept⟩⟩ : ByteArray).size ≤ s.size := by rw [size_mk, List.length_drop, bl_length]; omega
  refine .bnd es1 (.call (sequence_spec (d := 0) (n := 0) B ⟨⟨(bl s).drop kept⟩⟩ (by omega) (by omega) (.inr rfl) (by omega) (by omega) (by omega)) fun r10 ⟨o', B', c'⟩ => ?_)
  exact .bnd rfl (.bnd (sldL_at B'.g rfl) (.bnd (acc_bytes B'.A) (.of ⟨rfl, keepsAll kp c' (by omega)⟩)))
 ·rw [w1, packA, bl_length]
end Ge
namespace Ge.B
open Go Gx Go.Proofs
theorem rot_spec (k0 : Nat) (D : CallF) (x : UInt32) (h : AHeap) {q : Int} (n : Nat) (hn : 0 < n ∧ n < 32) (hq : Go.bits .and .u64 (IntKind.wrap .u64 q) 31 = ((32 - n : Nat) : Int)) : math_bits_RotateLeft32 k0 D (x.toNat : Int) q h = some (((rotr x n).toNat : Int), h) := by
 simp only [math_bits_RotateLeft32, hq]
 rw [if_pos (by omega)]
 have e2 : IntKind.wrap .u64 (32 - ((32 - n : Nat) : Int)) = ((n : Nat) : Int) := by
  rw [show (32 : Int) - ((32 - n : Nat) : Int) = (n : Int) by omega]
  exact wr_u64 _ (by omega) (by omega)
 rw [e2, if_pos (by omega), Int.toNat_natCast, Int.toNat_natCast]
 have m1 : min (32 - n) (IntKind.bits .u32) = 32 - n := Nat.min_eq_left (by show 32 - n ≤ 32; omega)
 have m2 : min n (IntKind.bits .u32) = n := Nat.min_eq_left (by show n ≤ 32; omega)
 rw [m1, m2]
 have p1 : (2 : Int) ^ (32 - n) = ((2 ^ (32 - n) : Nat) : Int) := by simp
 have p2 : (2 : Int) ^ n = ((2 ^ n : Nat) : Int) := by simp
 rw [p1, p2, shlU x (32 - n) (by omega), shrU x n (by omega), orU]
 rfl
theorem sp_l1 (K : Nat) (D : CallF) (j) (bot) {Q : List Value × AHeap → Prop} {h0 : AHeap} {b : Slc} {blk : List UInt8} (R : Row encB h0 b blk) (hl : blk.length = 64) {wb : Nat} (hwb : h0.next ≤ wb) {f : Nat → UInt32} (hf : ∀ i, i < 16 → f i = wAt blk i)
  (hj : ∀ h, Keeps h0 h → h.get wb = some (.cells (filU f 64 16) 174 true 0) → Wp (j (some ⟨wb, 0, none⟩) h) Q) :
  ∀ (d i : Nat) (h : AHeap), i + d = 16 → Keeps h0 h → h.get wb = some (.cells (filU f 64 i) 174 true 0) → Wp (iterK bot (d + 1) (sha_spread_l1b K D j) b (some ⟨wb, 0, none⟩) (i : Int) h) Q
 | 0, i, h, hi, kp, hb => by
  obtain rfl : i = 16 := by omega
  rw [iterK_s]; simp only [sha_spread_l1b]
  exact Wp.ifn (by simp) (hj h kp hb)
 | d + 1, i, h, hi, kp, hb => by
  rw [iterK_s]; simp only [sha_spread_l1b]
  refine Wp.ifp (by simp; omega) ?_
  obtain ⟨x0, g0⟩ := isome (l := blk) (i := 4 * i) (by omega)
  obtain ⟨x1, g1⟩ := isome (l := blk) (i := 4 * i + 1) (by omega)
  obtain ⟨x2, g2⟩ := isome (l := blk) (i := 4 * i + 2) (by omega)
  obtain ⟨x3, g3⟩ := isome (l := blk) (i := 4 * i + 3) (by omega)
  have R' := R.keeps kp
  obtain ⟨q0, a0, c0⟩ := R'.ldB g0
  obtain ⟨q1, a1, c1⟩ := R'.ldB g1
  obtain ⟨q2, a2, c2⟩ := R'.ldB g2
  obtain ⟨q3, a3, c3⟩ := R'.ldB g3
  have e0 : IntKind.wrap .i64 (4 * (i : Int)) = ((4 * i : Nat) : Int) := sw64 (by omega) (by omega)
  have e1 : IntKind.wrap .i64 (((4 * i : Nat) : Int) + 1) = ((4 * i + 1 : Nat) : Int) := sw64 (by omega) (by omega)
  have e2 : IntKind.wrap .i64 (((4 * i : Nat) : Int) + 2) = ((4 * i + 2 : Nat) : Int) := sw64 (by omega) (by omega)
  have e3 : IntKind.wrap .i64 (((4 * i : Nat) : Int) + 3) = ((4 * i + 3 : Nat) : Int) := sw64 (by omega) (by omega)
  rw [e0, e1, e2, e3]
  refine Wp.bnd a0 (Wp.bnd c0 (Wp.bnd a1 (Wp.bnd c1 (Wp.bnd a2 (Wp.bnd c2 (Wp.bnd a3 (Wp.bnd c3 (Wp.bnd rfl (Wp.bnd (sidxA (by omega)) ?_)))))))))
  rw [or_bytes]
  have ev : be32 x0 x1 x2 x3 = f i := by rw [hf i (by omega)]; unfold wAt; rw [g0, g1, g2, g3]; rfl
  rw [ev]
  have hst : st1 ⟨wb, i, none⟩ (.int .u32 ((f i).toNat : Int)) h = some (h.set wb (.cells (filU f 64 (i + 1)) 174 true 0)) := by
   rw [st1_of hb (by rw [filU_length (by omega)]; omega) rfl, filU_set (by omega)]
  refine Wp.bnd hst ?_
  rw [Gx.w1 (by omega)]
  exact sp_l1 K D j bot R hl hwb hf hj d (i + 1) _ (by omega) (kp.set hwb) (sset_get _ _ _)
theorem sp_l0 (K : Nat) (D : CallF) (j) (bot) {Q : List Value × AHeap → Prop} {h0 : AHeap} {wb : Nat} (hwb : h0.next ≤ wb) {m : Nat → UInt32}
  (hj : ∀ h, Keeps h0 h → h.get wb = some (.cells (filU (sched m) 64 64) 174 true 0) → Wp (j (some ⟨wb, 0, none⟩) h) Q) :
  ∀ (d i : Nat) (h : AHeap), i + d = 64 → 16 ≤ i → Keeps h0 h → h.get wb = some (.cells (filU (sched m) 64 i) 174 true 0) → Wp (iterK bot (d + 1) (sha_spread_l0b K D j) (some ⟨wb, 0, none⟩) (i : Int) h) Q
 | 0, i, h, hi, h16, kp, hb => by
  obtain rfl : i = 64 := by omega
  rw [iterK_s]; simp only [sha_spread_l0b]
  exact Wp.ifn (by simp) (hj h kp hb)
 | d + 1, i, h, hi, h16, kp, hb => by
  rw [iterK_s]; simp only [sha_spread_l0b]
  refine Wp.ifp (by simp; omega) ?_
  have e15 : IntKind.wrap .i64 ((i : Int) - 15) = ((i - 15 : Nat) : Int) := sw64 (by omega) (by omega)
  have e2 : IntKind.wrap .i64 ((i : Int) - 2) = ((i - 2 : Nat) : Int) := sw64 (by omega) (by omega)
  have e16 : IntKind.wrap .i64 ((i : Int) - 16) = ((i - 16 : Nat) : Int) := sw64 (by omega) (by omega)
  have e7 : IntKind.wrap .i64 ((i : Int) - 7) = ((i - 7 : Nat) : Int) := sw64 (by omega) (by omega)
  rw [e15, e2, e16, e7]
  have ld : ∀ jj, jj < i → ldI .u32 ⟨wb, jj, none⟩ h = some ((sched m jj).toNat : Int) := fun jj hjj => sldI_at hb (filU_get hjj)
  refine Wp.bnd rfl (Wp.bnd (sidxA (by omega)) (Wp.bnd (ld _ (by omega)) (Wp.bnd rfl (Wp.bnd (sidxA (by omega)) (Wp.bnd (ld _ (by omega)) ?_)))))
  refine Wp.bnd (rot_spec K D _ h 7 (by decide) (by decide)) (Wp.bnd (rot_spec K D _ h 18 (by decide) (by decide)) (Wp.bnd (rot_spec K D _ h 17 (by decide) (by decide)) (Wp.bnd (rot_spec K D _ h 19 (by decide) (by decide)) ?_)))
  refine Wp.bnd rfl (Wp.bnd (sidxA (by omega)) (Wp.bnd (ld _ (by omega)) (Wp.bnd rfl (Wp.bnd (sidxA (by omega)) (Wp.bnd (ld _ (by omega)) (Wp.bnd rfl (Wp.bnd (sidxA (by omega)) ?_)))))))
  have s3 : Int.fdiv ((sched m (i - 15)).toNat : Int) 8 = ((sched m (i - 15) >>> 3).toNat : Int) := shrU _ 3 (by decide)
  have s10 : Int.fdiv ((sched m (i - 2)).toNat : Int) 1024 = ((sched m (i - 2) >>> 10).toNat : Int) := shrU _ 10 (by decide)
  simp only [s3, s10, xorU, addU]
  have ev : sched m (i - 16) + (rotr (sched m (i - 15)) 7 ^^^ rotr (sched m (i - 15)) 18 ^^^ sched m (i - 15) >>> 3) + sched m (i - 7) + (rotr (sched m (i - 2)) 17 ^^^ rotr (sched m (i - 2)) 19 ^^^ sched m (i - 2) >>> 10) = sched m i := (sched_hi h16).symm
  rw [ev]
  have hst : st1 ⟨wb, i, none⟩ (.int .u32 ((sched m i).toNat : Int)) h = some (h.set wb (.cells (filU (sched m) 64 (i + 1)) 174 true 0)) := by
   rw [st1_of hb (by rw [filU_length (by omega)]; omega) rfl, filU_set (by omega)]
  refine Wp.bnd hst ?_
  rw [Gx.w1 (by omega)]
  exact sp_l0 K D j bot hwb hj d (i + 1) _ (by omega) (by omega) (kp.set hwb) (sset_get _ _ _)
theorem spread_spec {k0 : Nat} (hk : 100 ≤ k0) (D : CallF) {h : AHeap} {b : Slc} {blk : List UInt8} (R : Row encB h b blk) (hl : blk.length = 64) :
  Wp (sha_spread k0 D b h) fun r => r.1 = (List.range 64).map (fun i => encU (sched (wAt blk) i)) ∧ Keeps h r.2 := by
 simp only [sha_spread]
 let h1 := h.new (.cells (List.replicate 64 (.int .u32 0)) 174 true 0)
 have k1 : Keeps h h1 := Keeps.new h _
 have g1 : h1.get h.next = some (.cells (filU (sched (wAt blk)) 64 0) 174 true 0) := by rw [filU_zero]; simp [h1]
 refine Wp.jn fun j1 hj1 => ?_
 unfold sha_spread_l1
 obtain ⟨bot1, e1⟩ := iterK_of (fun _ _ _ _ => none) (sha_spread_l1b k0 D j1) (show 16 + 1 ≤ k0 by omega)
 rw [e1]
 refine sp_l1 k0 D j1 bot1 R hl (Nat.le_refl _) (f := sched (wAt blk)) (fun i hi => sched_lo hi) ?_ 16 0 h1 (by omega) k1 g1
 intro h2 k2 g2
 subst hj1
 refine Wp.jn fun j2 hj2 => ?_
 unfold sha_spread_l0
 obtain ⟨bot2, e2⟩ := iterK_of (fun _ _ _ => none) (sha_spread_l0b k0 D j2) (show 48 + 1 ≤ k0 by omega)
 rw [e2]
 refine sp_l0 k0 D j2 bot2 (Nat.le_refl _) ?_ 48 16 h2 (by omega) (by omega) k2 g2
 intro h3 k3 g3
 subst hj2
 rw [filU_all] at g3
 obtain ⟨L, hL⟩ : ∃ L, L = (List.range 64).map fun i => encU (sched (wAt blk) i) := ⟨_, rfl⟩
 rw [← hL] at g3 ⊢
 have hlen : L.length = 64 := by rw [hL]; simp
 have l3 := sldA_at (sp := none) g3 hlen
 have s3 := sstL_at (sp := none) g3 hlen hlen (by rw [hL]; exact allOne_U _ _) (by decide)
 have l4 := sldA_at (sp := none) (sset_get h3 h.next (.cells L 174 true 0)) hlen
 have hd : decA 64 (.agg ⟨L⟩) = some L := by
  show (bif Nat.beq L.length 64 then some L else none) = some L
  rw [hlen]; rfl
 exact Wp.bnd rfl (Wp.bnd l3 (Wp.bnd rfl (Wp.bnd s3 (Wp.bnd rfl (Wp.bnd l4 (Wp.bnd hd (Wp.of ⟨rfl, k3.set (Nat.le_refl _)⟩)))))))
end Ge.B
namespace Ge.B
open Go Gx Go.Proofs
structure HS (h : AHeap) (hb : Nat) (s : St) (r : Slc) (long : Int) : Prop where
 blk : h.get hb = some (.cells (hcells (wl s) r long) 150 true 0)
 lt : hb < h.next
theorem HS.chg {S : Nat → Prop} {h h' : AHeap} {hb : Nat} {s : St} {r : Slc} {long : Int} (H : HS h hb s r long) (c : Chg S h h') (hs : ¬ S hb) : HS h' hb s r long := ⟨(c.oth hb H.lt hs).trans H.blk, Nat.lt_of_lt_of_le H.lt c.nx⟩
theorem HS.keeps {h h' : AHeap} {hb : Nat} {s : St} {r : Slc} {long : Int} (H : HS h hb s r long) (c : Keeps h h') : HS h' hb s r long := H.chg c fun f => f
theorem tk_l1 (K : Nat) (D : CallF) (j) (bot) {Q : Unit × AHeap → Prop} {h0 : AHeap} (kg : KG 0 h0) {wb : Nat} {m : Nat → UInt32} (hw : h0.get wb = some (.cells ((List.range 64).map fun i => encU (m i)) 174 true 0)) (hv : Option Addr) (s : St)
  (hj : ∀ t : St, t = rounds kAt m 64 s → Wp (j hv (t.a.toNat : Int) (t.b.toNat : Int) (t.c.toNat : Int) (t.d.toNat : Int) (t.e.toNat : Int) (t.f.toNat : Int) (t.g.toNat : Int) (t.h.toNat : Int) h0) Q) :
  ∀ (d i : Nat) (t : St), i + d = 64 → t = rounds kAt m i s →
   Wp (iterK bot (d + 1) (sha_Hash_take_l1b K D j) hv (some ⟨wb, 0, none⟩) (t.a.toNat : Int) (t.b.toNat : Int) (t.c.toNat : Int) (t.d.toNat : Int) (t.e.toNat : Int) (t.f.toNat : Int) (t.g.toNat : Int) (t.h.toNat : Int) (i : Int) h0) Q
 | 0, i, t, hi, ht => by
  obtain rfl : i = 64 := by omega
  rw [iterK_s]; simp only [sha_Hash_take_l1b]
  exact Wp.ifn (by simp) (hj t ht)
 | d + 1, i, t, hi, ht => by
  rw [iterK_s]; simp only [sha_Hash_take_l1b]
  refine Wp.ifp (by simp; omega) ?_
  refine Wp.bnd (rot_spec K D _ h0 6 (by decide) (by decide)) (Wp.bnd (rot_spec K D _ h0 11 (by decide) (by decide)) (Wp.bnd (rot_spec K D _ h0 25 (by decide) (by decide)) ?_))
  have lw : ldI .u32 ⟨wb, i, none⟩ h0 = some ((m i).toNat : Int) := sldI_at hw (by rw [List.getElem?_map, List.getElem?_range (by omega)]; rfl)
  refine Wp.bnd (sidxA (by omega)) (Wp.bnd (kg.ld (by omega)) (Wp.bnd rfl (Wp.bnd (sidxA (by omega)) (Wp.bnd lw ?_))))
  refine Wp.bnd (rot_spec K D _ h0 2 (by decide) (by decide)) (Wp.bnd (rot_spec K D _ h0 13 (by decide) (by decide)) (Wp.bnd (rot_spec K D _ h0 22 (by decide) (by decide)) ?_))
  simp only [xorU, andU, notU, addU]
  rw [Gx.w1 (by omega)]
  exact tk_l1 K D j bot kg hw hv s hj d (i + 1) (rnd (kAt i) (m i) t) (by omega) (by rw [ht]; rfl)
theorem tk_l0 (K : Nat) (D : CallF) (bot) {h0 : AHeap} {hb : Nat} {s t : St} {r : Slc} {long : Int} (hlt : hb < h0.next) :
  ∀ (d i : Nat) (h : AHeap) (l : List UInt32), i + d = 8 → l.length = 8 → (∀ j x y, j < i → (wl s)[j]? = some x → (wl t)[j]? = some y → l[j]? = some (x + y)) → (∀ j, i ≤ j → l[j]? = (wl s)[j]?) → h.get hb = some (.cells (hcells l r long) 150 true 0) → Chg (fun x => x = hb) h0 h →
   Wp (iterK bot (d + 1) (sha_Hash_take_l0b K D) (some ⟨hb, 0, none⟩) ((t.a.toNat : Int), (t.b.toNat : Int), (t.c.toNat : Int), (t.d.toNat : Int), (t.e.toNat : Int), (t.f.toNat : Int), (t.g.toNat : Int), (t.h.toNat : Int)) (i : Int) h) fun q => HS q.2 hb (addSt s t) r long ∧ Chg (fun x => x = hb) h0 q.2
 | 0, i, h, l, hi, hl, l1, l2, hg, c => by
  obtain rfl : i = 8 := by omega
  rw [iterK_s]; simp only [sha_Hash_take_l0b]
  refine Wp.ifn (by simp) (Wp.of ⟨⟨?_, Nat.lt_of_lt_of_le hlt c.nx⟩, c⟩)
  have e : l = wl (addSt s t) := by
   apply List.ext_getElem?
   intro j
   by_cases hj : j < 8
   ·obtain ⟨x, hx⟩ := isome (l := wl s) (i := j) hj
    obtain ⟨y, hy⟩ := isome (l := wl t) (i := j) hj
    rw [l1 j x y hj hx hy]
    match j, hj with
    | 0, _ => cases hx; cases hy; rfl
    | 1, _ => cases hx; cases hy; rfl
    | 2, _ => cases hx; cases hy; rfl
    | 3, _ => cases hx; cases hy; rfl
    | 4, _ => cases hx; cases hy; rfl
    | 5, _ => cases hx; cases hy; rfl
    | 6, _ => cases hx; cases hy; rfl
    | 7, _ => cases hx; cases hy; rfl
    | n + 8, h => omega
   ·rw [List.getElem?_eq_none (by omega), List.getElem?_eq_none (by rw [wl_length]; omega)]
  rw [e] at hg
  exact hg
 | d + 1, i, h, l, hi, hl, l1, l2, hg, c => by
  rw [iterK_s]; simp only [sha_Hash_take_l0b]
  refine Wp.ifp (by simp; omega) ?_
  refine Wp.ifp (by omega) ?_
  obtain ⟨x, hx⟩ := isome (l := wl s) (i := i) (by rw [wl_length]; omega)
  obtain ⟨y, hy⟩ := isome (l := wl t) (i := i) (by rw [wl_length]; omega)
  have hly : ((wl t).map encU)[((i : Int)).toNat * 1]? = some (.int .u32 (y.toNat : Int)) := by
   rw [Int.toNat_natCast, Nat.mul_one, List.getElem?_map, hy]; rfl
  refine Wp.bnd hly (Wp.bnd rfl (Wp.bnd rfl ?_))
  have hlx : l[i]? = some x := by rw [l2 i (Nat.le_refl _), hx]
  refine Wp.bnd (sidxA (by omega)) (Wp.bnd (sldI_at hg (hcells_word hlx)) (Wp.bnd rfl (Wp.bnd (sidxA (by omega)) ?_)))
  rw [addU]
  have hst : st1 ⟨hb, i, none⟩ (.int .u32 ((x + y).toNat : Int)) h = some (h.set hb (.cells (hcells (l.set i (x + y)) r long) 150 true 0)) := by
   rw [st1_of hg (by rw [hcells_length hl]; omega) rfl, hcells_set _ (by omega)]
  refine Wp.bnd hst ?_
  rw [Gx.w1 (by omega)]
  refine tk_l0 K D bot hlt d (i + 1) _ (l.set i (x + y)) (by omega) (by simpa using hl) (fun j x' y' hj hx' hy' => ?_) (fun j hj => ?_) (sset_get _ _ _) (c.trans (Chg.set (.inr rfl)))
  ·by_cases e : j = i
   ·subst e
    rw [hx] at hx'; rw [hy] at hy'
    cases hx'; cases hy'
    rw [List.getElem?_set_self (by omega)]
   ·rw [List.getElem?_set_ne (fun q => e q.symm)]
    exact l1 j x' y' (by omega) hx' hy'
  ·rw [List.getElem?_set_ne (by omega)]
   exact l2 j (by omega)
theorem take_spec {k0 : Nat} (hk : 100 ≤ k0) (D : CallF) {h : AHeap} {hb : Nat} {s : St} {r : Slc} {long : Int} (H : HS h hb s r long) (kg : KG 0 h) {b : Slc} {blk : List UInt8} (R : Row encB h b blk) (hl : blk.length = 64) :
  Wp (sha_Hash_take k0 D (some ⟨hb, 0, none⟩) b h) fun q => HS q.2 hb (comp s blk) r long ∧ Chg (fun x => x = hb) h q.2 := by
 simp only [sha_Hash_take]
 refine Wp.call (spread_spec hk D R hl) fun a ⟨ha, ka⟩ => ?_
 obtain ⟨L, h1⟩ := a
 simp only at ha ka ⊢
 subst ha
 let h2 := h1.new (.cells (List.replicate 64 (.int .u32 0)) 174 true 0)
 have g2 : h2.get h1.next = some (.cells (List.replicate 64 (.int .u32 0)) 174 true 0) := by simp [h2]
 have s3 := sstL_at (sp := none) g2 (by simp) (show ((List.range 64).map fun i => encU (sched (wAt blk) i)).length = 64 by simp) (allOne_U _ _) (by decide)
 refine Wp.bnd s3 ?_
 obtain ⟨h3, e3⟩ : ∃ h3, h3 = h2.set h1.next (.cells ((List.range 64).map fun i => encU (sched (wAt blk) i)) 174 true 0) := ⟨_, rfl⟩
 rw [← e3]
 have k3 : Keeps h h3 := by
  rw [e3]
  exact Keeps.set (ka.trans (Keeps.new h1 _)) ka.nx
 have g3 : h3.get h1.next = some (.cells ((List.range 64).map fun i => encU (sched (wAt blk) i)) 174 true 0) := by rw [e3]; exact sset_get _ _ _
 have H3 := H.keeps k3
 have ld : ∀ {i : Nat} {x : UInt32}, (wl s)[i]? = some x → ldI .u32 ⟨hb, i, none⟩ h3 = some (x.toNat : Int) := fun hx => sldI_at H3.blk (hcells_word hx)
 refine Wp.bnd rfl (Wp.bnd (ld (i := 0) rfl) (Wp.bnd rfl (Wp.bnd (ld (i := 1) rfl) (Wp.bnd rfl (Wp.bnd (ld (i := 2) rfl) (Wp.bnd rfl (Wp.bnd (ld (i := 3) rfl) (Wp.bnd rfl (Wp.bnd (ld (i := 4) rfl) (Wp.bnd rfl (Wp.bnd (ld (i := 5) rfl) (Wp.bnd rfl (Wp.bnd (ld (i := 6) rfl) (Wp.bnd rfl (Wp.bnd (ld (i := 7) rfl) ?_)))))))))))))))
 refine Wp.jn fun j1 hj1 => ?_
 unfold sha_Hash_take_l1
 obtain ⟨bot1, e1⟩ := iterK_of (fun _ _ _ _ _ _ _ _ _ _ _ _ => none) (sha_Hash_take_l1b k0 D j1) (show 64 + 1 ≤ k0 by omega)
 rw [e1]
 refine tk_l1 k0 D j1 bot1 (kg.chg k3 fun f => f) g3 (some ⟨hb, 0, none⟩) s ?_ 64 0 s (by omega) rfl
 intro t ht
 subst hj1
 dsimp only
 unfold sha_Hash_take_l0
 obtain ⟨bot2, e2⟩ := iterK_of (fun _ _ _ _ => none) (sha_Hash_take_l0b k0 D) (show 8 + 1 ≤ k0 by omega)
 rw [e2]
 refine (tk_l0 k0 D bot2 (h0 := h3) (s := s) (t := t) (r := r) (long := long) H3.lt 8 0 h3 (wl s) (by omega) rfl (fun j x y hj => by omega) (fun j _ => rfl) H3.blk (Chg.refl _ _)).mono ?_
 rintro q ⟨q1, q2⟩
 refine ⟨?_, (k3.keeps).trans q2⟩
 unfold comp
 rw [← ht]; exact q1
end Ge.B
namespace Ge.B
open Go Gx Go.Proofs
structure Hash (n0 : Nat) (h : AHeap) (hb : Nat) (s : St) (rest : List UInt8) (long : Nat) : Prop where
 ok : ∃ r, HS h hb s r (long : Int) ∧ Acc encB 5 n0 h r rest ∧ ∀ a, r.a = some a → a.block ≠ hb
 le : n0 ≤ hb
theorem Hash.keeps {n0 : Nat} {h h' : AHeap} {hb : Nat} {s : St} {rest : List UInt8} {long : Nat} (H : Hash n0 h hb s rest long) (c : Keeps h h') : Hash n0 h' hb s rest long := by
 obtain ⟨r, h1, h2, h3⟩ := H.ok
 exact ⟨⟨r, h1.keeps c, h2.keeps c, h3⟩, H.le⟩
theorem Hash.lt {n0 : Nat} {h : AHeap} {hb : Nat} {s : St} {rest : List UInt8} {long : Nat} (H : Hash n0 h hb s rest long) : hb < h.next := by
 obtain ⟨r, h1, _⟩ := H.ok
 exact h1.lt
theorem hcells_rest {l : List UInt32} {r : Slc} {long : Int} (h : l.length = 8) : (hcells l r long)[8]? = some (.slice r.a r.len r.cap) := by
 unfold hcells
 rw [List.getElem?_append_right (by simp [h]), List.length_map, h]; rfl
theorem hcells_long {l : List UInt32} {r : Slc} {long : Int} (h : l.length = 8) : (hcells l r long)[9]? = some (.int .i64 long) := by
 unfold hcells
 rw [List.getElem?_append_right (by simp [h]), List.length_map, h]; rfl
theorem hcells_setR {l : List UInt32} {r r' : Slc} {long : Int} (h : l.length = 8) : (hcells l r long).set 8 (.slice r'.a r'.len r'.cap) = hcells l r' long := by
 unfold hcells
 rw [List.set_append_right _ _ (by simp [h]), List.length_map, h]; rfl
theorem hcells_setL {l : List UInt32} {r : Slc} {long long' : Int} (h : l.length = 8) : (hcells l r long).set 9 (.int .i64 long') = hcells l r long' := by
 unfold hcells
 rw [List.set_append_right _ _ (by simp [h]), List.length_map, h]; rfl
theorem HS.setR {h : AHeap} {hb : Nat} {s : St} {r : Slc} {long : Int} (H : HS h hb s r long) (r' : Slc) : st1 ⟨hb, 8, none⟩ (.slice r'.a r'.len r'.cap) h = some (h.set hb (.cells (hcells (wl s) r' long) 150 true 0)) ∧ HS (h.set hb (.cells (hcells (wl s) r' long) 150 true 0)) hb s r' long := by
 refine ⟨?_, sset_get _ _ _, by simpa using H.lt⟩
 rw [st1_of H.blk (by rw [hcells_length (wl_length s)]; decide) rfl, hcells_setR (wl_length s)]
theorem HS.setL {h : AHeap} {hb : Nat} {s : St} {r : Slc} {long : Int} (H : HS h hb s r long) (long' : Int) : st1 ⟨hb, 9, none⟩ (.int .i64 long') h = some (h.set hb (.cells (hcells (wl s) r long') 150 true 0)) ∧ HS (h.set hb (.cells (hcells (wl s) r long') 150 true 0)) hb s r long' := by
 refine ⟨?_, sset_get _ _ _, by simpa using H.lt⟩
 rw [st1_of H.blk (by rw [hcells_length (wl_length s)]; decide) rfl, hcells_setL (wl_length s)]
theorem acc_sub {n0 : Nat} {h : AHeap} {r : Slc} {l : List UInt8} (A : Acc encB 5 n0 h r l) {i j : Nat} (hij : i ≤ j) (hj : j ≤ l.length) (hi : Option Int) (hhi : hi = some (j : Int) ∨ (hi = none ∧ j = l.length)) :
  ∃ t, Gx.subL 1 r (some (i : Int)) hi none = some t ∧ Row encB h t ((l.take j).drop i) ∧ t.len = j - i := by
 have hlen := A.row.1
 rcases A.st with ⟨rfl, rfl⟩ | ⟨b, g⟩
 ·simp at hj
  subst hj
  obtain rfl : i = 0 := by omega
  refine ⟨⟨none, 0, 0⟩, ?_, Row.nil _ _ _ _, rfl⟩
  rcases hhi with rfl | ⟨rfl, _⟩ <;> rfl
 ·have hg := g.s
  subst hg
  have hb := A.lt ⟨b, 0, some 2⟩ rfl
  have hhv : hi.getD ((l.length : Nat) : Int) = (j : Int) := by
   rcases hhi with rfl | ⟨rfl, e⟩
   ·rfl
   ·rw [e]; rfl
  refine ⟨⟨some ⟨b, if (l.length : Int) = (i : Int) then 0 else i, some 2⟩, j - i, l.length - i⟩, ?_, ⟨?_, fun k x hx => ?_⟩, rfl⟩
  ·simp only [Gx.subL, Option.getD_none, Option.getD_some, hhv]
   rw [if_pos (by omega), if_pos (by rfl)]
   rw [show ((j : Int) - (i : Int)).toNat = j - i by omega, show ((l.length : Int) - (i : Int)).toNat = l.length - i by omega]
   simp
  ·rw [List.length_drop, List.length_take]; show j - i = min j l.length - i; omega
  ·rw [List.getElem?_drop, List.getElem?_take] at hx
   split at hx
   ·have hlt := (List.getElem?_eq_some_iff.1 hx).1
    refine ⟨_, _, _, _, _, rfl, hb.1, g.blk, ?_⟩
    simp only
    rw [if_neg (by omega), List.getElem?_map, hx]; rfl
   ·cases hx
theorem wr_l0 {k0 : Nat} (hk : 100 ≤ k0) (D : CallF) (j) (bot) {Q : Unit × AHeap → Prop} {n0 hb : Nat} (hn : 0 < n0) (hle : n0 ≤ hb) {long : Int} {r : Slc} {l : List UInt8} (hl : l.length ≤ 140737488355328) (hr : ∀ a, r.a = some a → a.block ≠ hb) {s0 : St}
  {h0 : AHeap} (hj : ∀ h i, Chg (fun x => n0 ≤ x) h0 h → KG 0 h → HS h hb (absorb s0 l) r long → Acc encB 5 n0 h r l → i = 64 * (l.length / 64) → Wp (j (some ⟨hb, 0, none⟩) (i : Int) h) Q) :
  ∀ (d : Nat) (i : Nat) (s : St) (h : AHeap), l.length - i < 64 * (d + 1) → i ≤ l.length → i % 64 = 0 → absorb s (l.drop i) = absorb s0 l → Chg (fun x => n0 ≤ x) h0 h → KG 0 h → HS h hb s r long → Acc encB 5 n0 h r l →
   Wp (iterK bot (d + 1) (sha_Hash_Write_l0b k0 D j) (some ⟨hb, 0, none⟩) (i : Int) h) Q
 | d, i, s, h, hd, hi, h6, ha, c, kg, H, A => by
  rw [iterK_s]; simp only [sha_Hash_Write_l0b]
  refine Wp.bnd rfl (Wp.bnd (sldL_at H.blk (hcells_rest (wl_length s))) ?_)
  have hlen : r.len = l.length := A.row.1
  simp only
  rw [hlen, w64 _ (by omega)]
  by_cases c1 : 64 ≤ l.length - i
  ·refine Wp.ifp (by simp; omega) ?_
   obtain ⟨d', rfl⟩ : ∃ d', d = d' + 1 := ⟨d - 1, by omega⟩
   refine Wp.bnd rfl (Wp.bnd (sldL_at H.blk (hcells_rest (wl_length s))) ?_)
   have e64 : IntKind.wrap .i64 ((i : Int) + 64) = ((i + 64 : Nat) : Int) := sw64 (by omega) (by omega)
   rw [e64]
   obtain ⟨t, e1, R, tl⟩ := acc_sub A (i := i) (j := i + 64) (by omega) (by omega) (some ((i + 64 : Nat) : Int)) (.inl rfl)
   have e1' : Gx.subL 1 ⟨r.a, l.length, r.cap⟩ (some (i : Int)) (some ((i + 64 : Nat) : Int)) none = some t := by
    rw [← hlen]; exact e1
   refine Wp.bnd e1' ?_
   have hblk : ((l.take (i + 64)).drop i).length = 64 := by rw [List.length_drop, List.length_take]; omega
   refine Wp.call (take_spec hk D H kg R hblk) fun q ⟨q1, q2⟩ => ?_
   have q2' : Chg (fun x => n0 ≤ x) h q.2 := q2.wk fun x _ e => by have e : x = hb := e; show n0 ≤ x; omega
   refine wr_l0 hk D j bot hn hle hl hr hj d' (i + 64) _ q.2 (by omega) (by omega) (by omega) ?_ (c.trans q2') (kg.chg q2 (by omega)) q1 (A.chg q2 fun a ha e => hr a ha e)
   rw [← ha, absorb_ge (l := l.drop i) (by rw [List.length_drop]; exact c1), List.drop_drop]
   congr 2
   rw [List.drop_take, show i + 64 - i = 64 by omega]
  ·refine Wp.ifn (by simp; omega) ?_
   have hd2 : absorb s (l.drop i) = s := absorb_lt (by rw [List.length_drop]; omega)
   rw [hd2] at ha
   subst ha
   exact hj h i c kg H A (by omega)
theorem write_spec {k0 : Nat} (hk : 100 ≤ k0) (D : CallF) {n0 : Nat} {h : AHeap} {hb : Nat} {s : St} {rest : List UInt8} {long : Nat} (H : Hash n0 h hb s rest long) (kg : KG 0 h) (hn : 0 < n0) (t : ByteArray) (hlong : long + t.size ≤ 140737488351500) (hrest : rest.length ≤ 3800) (hkt : rest.length + t.size < 64 * k0) :
  Wp (sha_Hash_Write k0 D (some ⟨hb, 0, none⟩) t h) fun q => Hash n0 q.2 hb (absorb s (rest ++ bl t)) (restOf (rest ++ bl t)) (long + t.size) ∧ Chg (fun x => n0 ≤ x) h q.2 := by
 obtain ⟨⟨r, HS0, A0, hr⟩, hle⟩ := H
 simp only [sha_Hash_Write]
 have e1 : IntKind.wrap .i64 ((long : Int) + (t.size : Int)) = ((long + t.size : Nat) : Int) := sw64 (by omega) (by omega)
 obtain ⟨s1, H1⟩ := HS0.setL ((long + t.size : Nat) : Int)
 refine Wp.bnd rfl (Wp.bnd (sldI_at HS0.blk (hcells_long (wl_length s))) (Wp.bnd rfl (Wp.bnd (by rw [e1]; exact s1) ?_)))
 obtain ⟨h1, eh1⟩ : ∃ h1, h1 = h.set hb (.cells (hcells (wl s) r ((long + t.size : Nat) : Int)) 150 true 0) := ⟨_, rfl⟩
 rw [← eh1] at H1 ⊢
 have c1 : Chg (fun x => x = hb) h h1 := by rw [eh1]; exact Chg.set (.inr rfl)
 have A1 := A0.chg c1 fun a ha e => hr a ha e
 have n1 : n0 ≤ h1.next := Nat.le_trans hle (Nat.le_of_lt H1.lt)
 obtain ⟨r2, h2, e2, A2, c2, f2⟩ := A1.app (bytes := 1) (fun _ => rfl) (bl t) (by rw [bl_length]; omega) (by omega) n1
 rw [bl_length] at e2
 refine Wp.bnd rfl (Wp.bnd (sldL_at H1.blk (hcells_rest (wl_length s))) ?_)
 rw [bytesL_bl]
 refine Wp.bnd e2 ?_
 have H2 : HS h2 hb s r ((long + t.size : Nat) : Int) := H1.chg c2 fun ⟨a, ha, e⟩ => hr a ha e.symm
 have hr2 : ∀ a, r2.a = some a → a.block ≠ hb := fun a ha e => by
  rcases f2 a ha with f | f
  ·have := H1.lt; omega
  ·exact hr a f e
 obtain ⟨s3, H3⟩ := H2.setR r2
 refine Wp.bnd rfl (Wp.bnd s3 ?_)
 obtain ⟨h3, eh3⟩ : ∃ h3, h3 = h2.set hb (.cells (hcells (wl s) r2 ((long + t.size : Nat) : Int)) 150 true 0) := ⟨_, rfl⟩
 rw [← eh3] at H3 ⊢
 have c3 : Chg (fun x => x = hb) h2 h3 := by rw [eh3]; exact Chg.set (.inr rfl)
 have A3 := A2.chg c3 fun a ha e => hr2 a ha e
 have w1' : Chg (fun x => n0 ≤ x) h h1 := c1.wk fun x _ e => by have e : x = hb := e; show n0 ≤ x; omega
 have w2 : Chg (fun x => n0 ≤ x) h1 h2 := c2.wk fun x _ ⟨a, ha, e⟩ => by have := (A1.lt a ha).2; show n0 ≤ x; omega
 have w3 : Chg (fun x => n0 ≤ x) h2 h3 := c3.wk fun x _ e => by have e : x = hb := e; show n0 ≤ x; omega
 have W3 := w1'.trans (w2.trans w3)
 refine Wp.jn fun j1 hj1 => ?_
 unfold sha_Hash_Write_l0
 obtain ⟨d, hd⟩ : ∃ d, d = (rest ++ bl t).length / 64 := ⟨_, rfl⟩
 have hll : (rest ++ bl t).length = rest.length + t.size := by rw [List.length_append, bl_length]
 obtain ⟨bot1, eb⟩ := iterK_of (fun _ _ _ => none) (sha_Hash_Write_l0b k0 D j1) (show d + 1 ≤ k0 by omega)
 rw [eb]
 refine wr_l0 hk D j1 bot1 hn hle (s0 := s) (h0 := h3) (l := rest ++ bl t) (by omega) hr2 ?_ d 0 s h3 (by omega) (by omega) rfl rfl (Chg.refl _ _) (kg.chg W3 (by omega)) H3 A3
 intro h4 i c4 kg4 H4 A4 hi
 subst hj1
 obtain ⟨u, u1, u2, u3⟩ := acc_sub A4 (i := i) (j := (rest ++ bl t).length) (by omega) (Nat.le_refl _) none (.inr ⟨rfl, rfl⟩)
 have hlen : r2.len = (rest ++ bl t).length := A4.row.1
 refine Wp.bnd rfl (Wp.bnd (sldL_at H4.blk (hcells_rest (wl_length _))) (Wp.bnd u1 (Wp.bnd u2.rdS ?_)))
 have n4 : n0 ≤ h4.next := Nat.le_trans hle (Nat.le_of_lt H4.lt)
 have er : ((rest ++ bl t).take (rest ++ bl t).length).drop i = restOf (rest ++ bl t) := by rw [List.take_length, hi]; rfl
 rw [er]
 obtain ⟨r5, h5, e5, A5, c5, f5⟩ := (Acc.nil encB 5 n0 h4).app (bytes := 1) (fun _ => rfl) (restOf (rest ++ bl t)) (by rw [restOf_length]; simp; omega) (by omega) n4
 have ul : u.len = (restOf (rest ++ bl t)).length := by rw [u3, ← er, List.length_drop, List.take_length]
 rw [← ul] at e5
 refine Wp.bnd e5 ?_
 have k5 : Keeps h4 h5 := c5.wk fun x _ ⟨a, ha, _⟩ => by cases ha
 have H5 := H4.keeps k5
 obtain ⟨s6, H6⟩ := H5.setR r5
 have hr5 : ∀ a, r5.a = some a → a.block ≠ hb := fun a ha e => by
  rcases f5 a ha with f | f
  ·have := H4.lt; omega
  ·cases f
 refine Wp.bnd rfl (Wp.bnd s6 (Wp.of ⟨⟨⟨r5, H6, ?_, hr5⟩, hle⟩, ?_⟩))
 ·exact (A5.chg (Chg.set (S := fun x => x = hb) (.inr rfl)) fun a ha e => hr5 a ha e)
 ·refine W3.trans (c4.trans ((k5.keeps).trans (Chg.set (.inr hle))))
end Ge.B
namespace Ge.B
open Go Gx Go.Proofs
theorem hnew_spec (k0 : Nat) (D : CallF) (h : AHeap) : ∃ h' hb, sha_New k0 D h = some (some ⟨hb, 0, none⟩, h') ∧ Keeps h h' ∧ h.next ≤ hb ∧ Hash h.next h' hb st0 [] 0 := by
 have first : sha_first k0 D h = some (((st0.a.toNat : Int), (st0.b.toNat : Int), (st0.c.toNat : Int), (st0.d.toNat : Int), (st0.e.toNat : Int), (st0.f.toNat : Int), (st0.g.toNat : Int), (st0.h.toNat : Int)), (h.new (.cells [.int .u32 0, .int .u32 0, .int .u32 0, .int .u32 0, .int .u32 0, .int .u32 0, .int .u32 0, .int .u32 0] 147 true 0)).set h.next (.cells ((wl st0).map encU) 147 true 0)) := by
  simp only [sha_first]
  have g1 : (h.new (.cells [.int .u32 0, .int .u32 0, .int .u32 0, .int .u32 0, .int .u32 0, .int .u32 0, .int .u32 0, .int .u32 0] 147 true 0)).get h.next = some (.cells [.int .u32 0, .int .u32 0, .int .u32 0, .int .u32 0, .int .u32 0, .int .u32 0, .int .u32 0, .int .u32 0] 147 true 0) := by simp
  have s1 := sstL_at (sp := none) g1 rfl (show ((wl st0).map encU).length = 8 from rfl) rfl (by decide)
  refine bnd s1 (bnd (sldA_at (sset_get _ _ _) rfl) (bnd rfl rfl))
 simp only [sha_New]
 let h1 := (h.new (.cells [.int .u32 0, .int .u32 0, .int .u32 0, .int .u32 0, .int .u32 0, .int .u32 0, .int .u32 0, .int .u32 0] 147 true 0)).set h.next (.cells ((wl st0).map encU) 147 true 0)
 have k1 : Keeps h h1 := Keeps.set (Keeps.new h _) (Nat.le_refl _)
 have n1 : h1.next = h.next + 1 := by simp [h1]
 refine ⟨h1.new (.cells (hcells (wl st0) ⟨none, 0, 0⟩ 0) 150 true 0), h1.next, bnd first rfl, k1.trans (Keeps.new _ _), by omega, ⟨⟨⟨none, 0, 0⟩, ⟨by simp, by simp⟩, Acc.nil _ _ _ _, fun a ha => by cases ha⟩, by omega⟩⟩
theorem fork_spec (k0 : Nat) (D : CallF) {n0 : Nat} {h : AHeap} {hb : Nat} {s : St} {rest : List UInt8} {long : Nat} (H : Hash n0 h hb s rest long) (hr : rest.length ≤ 140737488355000) :
  ∃ h' eb, sha_Hash_Fork k0 D (some ⟨hb, 0, none⟩) h = some (some ⟨eb, 0, none⟩, h') ∧ Keeps h h' ∧ Hash h.next h' eb s rest long ∧ Hash n0 h' hb s rest long := by
 have H0 := H
 obtain ⟨⟨r, HS0, A0, hne⟩, hle⟩ := H
 simp only [sha_Hash_Fork]
 obtain ⟨r3, h3, e3, A3, c3, f3⟩ := (Acc.nil encB 5 h.next h).app (bytes := 1) (fun _ => rfl) rest (by simp; omega) (by omega) (Nat.le_refl _)
 have hlen : r.len = rest.length := A0.row.1
 rw [← hlen] at e3
 have k3 : Keeps h h3 := c3.wk fun x _ ⟨a, ha, _⟩ => by cases ha
 have H3 := HS0.keeps k3
 have tk : (hcells (wl s) r (long : Int)).take 8 = (wl s).map encU := rfl
 have ldw : ∀ {g : AHeap}, HS g hb s r (long : Int) → ldA 8 ⟨hb, 0, none⟩ g = some ((wl s).map encU) := fun {g} Hg => by
  have := sldA_take (sp := none) Hg.blk (show 0 < 8 by decide) (by rw [hcells_length (wl_length s)]; decide)
  rw [tk] at this; exact this
 have ldl : ∀ {g : AHeap}, HS g hb s r (long : Int) → ldI .i64 ⟨hb, 9, none⟩ g = some (long : Int) := fun {g} Hg => sldI_at Hg.blk (hcells_long (wl_length s))
 refine ⟨h3.new (.cells (hcells (wl s) r3 (long : Int)) 150 true 0), h3.next, ?_, k3.trans (Keeps.new _ _), ⟨⟨r3, ⟨by simp, by simp⟩, A3.keeps (Keeps.new _ _), fun a ha => ?_⟩, k3.nx⟩, H0.keeps (k3.trans (Keeps.new _ _))⟩
 ·refine bnd rfl (bnd (sldL_at HS0.blk (hcells_rest (wl_length s))) (bnd A0.row.rdS (bnd e3 (bnd rfl (bnd (ldw H3) ?_)))))
  refine gp (ssw1 ?_) (bnd rfl (bnd rfl (bnd (ldl H3) (gp (ssw1 ?_) rfl))))
  ·show (ldA 8 ⟨hb, 0, none⟩ h).bind _ = _
   rw [ldw HS0]; rfl
  ·show (ldI .i64 ⟨hb, 9, none⟩ h).bind _ = _
   rw [ldl HS0]; rfl
 ·have := (A3.lt a ha).1
  omega
theorem sm_l2 {k0 : Nat} (D : CallF) (j) (bot) {Q : ByteArray × AHeap → Prop} {n0 eb hb : Nat} {s : St} {rest : List UInt8} {long : Nat} (hrl : rest.length < 64) {h0 : AHeap}
  (hj : ∀ h t, Keeps h0 h → Lst encB 5 h0.next h t (128 :: List.replicate (zeroN rest.length) 0) → Wp (j (some ⟨hb, 0, none⟩) (some ⟨eb, 0, none⟩) t h) Q) (H : Hash n0 h0 eb s rest long) :
  ∀ (d i : Nat) (t : Slc) (h : AHeap), i + d = zeroN rest.length → Keeps h0 h → Lst encB 5 h0.next h t (128 :: List.replicate i 0) →
   Wp (iterK bot (d + 1) (sha_Hash_Sum_l2b k0 D j) (some ⟨hb, 0, none⟩) (some ⟨eb, 0, none⟩) t h) Q := fun d => by
 induction d with
 | zero =>
  intro i t h hi kp L
  rw [iterK_s]; simp only [sha_Hash_Sum_l2b]
  obtain ⟨r, H1, A1, _⟩ := (H.keeps kp).ok
  refine Wp.bnd rfl (Wp.bnd (sldL_at H1.blk (hcells_rest (wl_length s))) ?_)
  have hl : r.len = rest.length := A1.row.1
  have tl := L.len
  rw [List.length_cons, List.length_replicate] at tl
  have e : Int.tmod (IntKind.wrap .i64 ((r.len : Int) + (t.len : Int))) 64 = 56 := by
   rw [hl, tl, w64 _ (by unfold zeroN at hi; omega), Int.tmod_eq_emod_of_nonneg (by omega)]
   unfold zeroN at hi; omega
  rw [e]
  refine Wp.ifn (by simp) ?_
  have : i = zeroN rest.length := by omega
  subst this
  exact hj h t kp L
 | succ d ih =>
  intro i t h hi kp L
  rw [iterK_s]; simp only [sha_Hash_Sum_l2b]
  obtain ⟨r, H1, A1, _⟩ := (H.keeps kp).ok
  refine Wp.bnd rfl (Wp.bnd (sldL_at H1.blk (hcells_rest (wl_length s))) ?_)
  have hl : r.len = rest.length := A1.row.1
  have tl := L.len
  rw [List.length_cons, List.length_replicate] at tl
  have e : Int.tmod (IntKind.wrap .i64 ((r.len : Int) + (t.len : Int))) 64 ≠ 56 := by
   rw [hl, tl, w64 _ (by unfold zeroN at hi; omega), Int.tmod_eq_emod_of_nonneg (by omega)]
   unfold zeroN at hi; omega
  refine Wp.ifp (by simpa using e) ?_
  refine Wp.bnd rdS_one ?_
  have k1 : Keeps h (h.new (.cells [.int .u8 0] 5 true 0)) := Keeps.new h _
  obtain ⟨t', h', e1, L', c1⟩ := (L.chg k1 fun _ _ f => f).app (bytes := 1) (fun _ => rfl) [0] (by simp) (by simp; unfold zeroN at hi; omega) (by omega) (Nat.le_trans kp.nx k1.nx)
  refine Wp.bnd e1 ?_
  refine ih (i + 1) t' h' (by omega) ?_ ?_
  ·exact Chg.beh (kp.trans k1) c1 fun x hx e => by have e : h0.next ≤ x := e; omega
  ·rw [List.replicate_succ']; simpa using L'
theorem be64_length (n : Nat) : (be64 n).length = 8 := rfl
theorem be64_get (n : Nat) : ∀ j, j < 8 → (be64 n)[j]? = some (b8 (n / 2 ^ (56 - 8 * j)))
 | 0, _ => rfl
 | 1, _ => rfl
 | 2, _ => rfl
 | 3, _ => rfl
 | 4, _ => rfl
 | 5, _ => rfl
 | 6, _ => rfl
 | 7, _ => by show some (b8 n) = some (b8 (n / 2 ^ 0)); rw [Nat.pow_zero, Nat.div_one]
 | n + 8, h => by omega
theorem b8_int (n : Nat) : IntKind.wrap .u8 (n : Int) = ((b8 n).toNat : Int) := by
 rw [Go.IntKind.wrap_u8]
 unfold b8
 rw [UInt8.toNat_ofNat']
 omega
theorem sm_l1 {k0 : Nat} (D : CallF) (j) (bot) {Q : ByteArray × AHeap → Prop} {e : Option Addr} {base : List UInt8} (hbl : base.length ≤ 1000) (c : Nat) {h0 : AHeap}
  (hj : ∀ h t, Keeps h0 h → Lst encB 5 h0.next h t (base ++ be64 c) → Wp (j e t h) Q) :
  ∀ (d i : Nat) (t : Slc) (h : AHeap), i + d = 8 → Keeps h0 h → Lst encB 5 h0.next h t (base ++ (be64 c).take i) →
   Wp (iterK bot (d + 1) (sha_Hash_Sum_l1b k0 D j) e t (c : Int) (56 - 8 * (i : Int)) h) Q := fun d => by
 induction d with
 | zero =>
  intro i t h hi kp L
  rw [iterK_s]; simp only [sha_Hash_Sum_l1b]
  obtain rfl : i = 8 := by omega
  have e8 : (be64 c).take 8 = be64 c := rfl
  rw [e8] at L
  exact Wp.ifn (by simp) (hj h t kp L)
 | succ d ih =>
  intro i t h hi kp L
  rw [iterK_s]; simp only [sha_Hash_Sum_l1b]
  refine Wp.ifp (by simp; omega) ?_
  refine Wp.ifp (by omega) ?_
  have es : (56 - 8 * (i : Int)).toNat = 56 - 8 * i := by omega
  have em : min (56 - 8 * i) (IntKind.bits .u64) = 56 - 8 * i := Nat.min_eq_left (by show 56 - 8 * i ≤ 64; omega)
  have ep : (2 : Int) ^ (56 - 8 * i) = ((2 ^ (56 - 8 * i) : Nat) : Int) := by simp
  have ef : Int.fdiv (c : Int) ((2 ^ (56 - 8 * i) : Nat) : Int) = ((c / 2 ^ (56 - 8 * i) : Nat) : Int) := by
   rw [Int.fdiv_eq_ediv_of_nonneg _ (Int.natCast_nonneg _)]; simp
  rw [es, em, ep, ef, b8_int]
  refine Wp.bnd rdS_one ?_
  have k1 : Keeps h (h.new (.cells [.int .u8 ((b8 (c / 2 ^ (56 - 8 * i))).toNat : Int)] 5 true 0)) := Keeps.new h _
  obtain ⟨t', h', e1, L', c1⟩ := (L.chg k1 fun _ _ f => f).app (bytes := 1) (fun _ => rfl) [b8 (c / 2 ^ (56 - 8 * i))] (by simp) (by rw [List.length_append, List.length_take, be64_length]; simp; omega) (by omega) (Nat.le_trans kp.nx k1.nx)
  refine Wp.bnd e1 ?_
  have ew : IntKind.wrap .i64 (56 - 8 * (i : Int) - 8) = 56 - 8 * ((i + 1 : Nat) : Int) := by rw [w64 _ (by omega)]; omega
  rw [ew]
  refine ih (i + 1) t' h' (by omega) ?_ ?_
  ·exact Chg.beh (kp.trans k1) c1 fun x hx e => by have e : h0.next ≤ x := e; omega
  ·rw [List.take_add_one, be64_get c i (by omega)]
   simpa using L'
theorem out_bytes (x : UInt32) : [Value.int .u8 (IntKind.wrap .u8 (Int.fdiv (x.toNat : Int) 16777216)), .int .u8 (IntKind.wrap .u8 (Int.fdiv (x.toNat : Int) 65536)), .int .u8 (IntKind.wrap .u8 (Int.fdiv (x.toNat : Int) 256)), .int .u8 (IntKind.wrap .u8 (x.toNat : Int))] = (out32 x).map encB := by
 have e1 : Int.fdiv (x.toNat : Int) 16777216 = ((x.toNat / 16777216 : Nat) : Int) := by rw [Int.fdiv_eq_ediv_of_nonneg _ (by omega)]; simp
 have e2 : Int.fdiv (x.toNat : Int) 65536 = ((x.toNat / 65536 : Nat) : Int) := by rw [Int.fdiv_eq_ediv_of_nonneg _ (by omega)]; simp
 have e3 : Int.fdiv (x.toNat : Int) 256 = ((x.toNat / 256 : Nat) : Int) := by rw [Int.fdiv_eq_ediv_of_nonneg _ (by omega)]; simp
 rw [e1, e2, e3, b8_int, b8_int, b8_int, b8_int]; rfl
theorem out_flat (s : St) : outSt s = ((wl s).map out32).flatten := by simp [outSt, wl]
theorem sm_l0 {k0 : Nat} (D : CallF) (j) (bot) {Q : ByteArray × AHeap → Prop} (s : St) {h0 : AHeap}
  (hj : ∀ h t, Keeps h0 h → Acc encB 5 h0.next h t (outSt s) → Wp (j t h) Q) :
  ∀ (d i : Nat) (t : Slc) (h : AHeap), i + d = 8 → Keeps h0 h → Acc encB 5 h0.next h t (((wl s).take i).map out32).flatten →
   Wp (iterK bot (d + 1) (sha_Hash_Sum_l0b k0 D j) t ((s.a.toNat : Int), (s.b.toNat : Int), (s.c.toNat : Int), (s.d.toNat : Int), (s.e.toNat : Int), (s.f.toNat : Int), (s.g.toNat : Int), (s.h.toNat : Int)) (i : Int) h) Q := fun d => by
 induction d with
 | zero =>
  intro i t h hi kp A
  rw [iterK_s]; simp only [sha_Hash_Sum_l0b]
  obtain rfl : i = 8 := by omega
  refine Wp.ifn (by simp) (hj h t kp ?_)
  rw [out_flat]; exact A
 | succ d ih =>
  intro i t h hi kp A
  rw [iterK_s]; simp only [sha_Hash_Sum_l0b]
  refine Wp.ifp (by simp; omega) ?_
  refine Wp.ifp (by omega) ?_
  obtain ⟨x, hx⟩ := isome (l := wl s) (i := i) (by rw [wl_length]; omega)
  have hlx : ((wl s).map encU)[((i : Int)).toNat * 1]? = some (.int .u32 (x.toNat : Int)) := by
   rw [Int.toNat_natCast, Nat.mul_one, List.getElem?_map, hx]; rfl
  refine Wp.bnd hlx (Wp.bnd rfl ?_)
  rw [out_bytes]
  have k1 : Keeps h (h.new (.cells ((out32 x).map encB) 5 true 0)) := Keeps.new h _
  have hr := rdL_all (h := h.new (.cells ((out32 x).map encB) 5 true 0)) (b := h.next) (c := (out32 x).map encB) (e := 5) (r := true) (fz := 0) (by simp)
  have hr' : Gx.rdS 1 (⟨some ⟨h.next, 0, some 0⟩, 4, 4⟩ : Slc) (h.new (.cells ((out32 x).map encB) 5 true 0)) = some ((out32 x).map encB) := hr
  refine Wp.bnd hr' ?_
  have hlen : (((wl s).take i).map out32).flatten.length = 4 * i := by
   have : ∀ l : List UInt32, (l.map out32).flatten.length = 4 * l.length := fun l => by
    induction l with
    | nil => rfl
    | cons y l ih => rw [List.map_cons, List.flatten_cons, List.length_append, ih]; simp [out32]; omega
   rw [this, List.length_take, wl_length]; omega
  obtain ⟨t', h', e1, A', c1, _⟩ := (A.keeps k1).app (bytes := 1) (fun _ => rfl) (out32 x) (by rw [hlen]; simp [out32]; omega) (by omega) (Nat.le_trans kp.nx k1.nx)
  refine Wp.bnd e1 ?_
  rw [Gx.w1 (by omega)]
  refine ih (i + 1) t' h' (by omega) ?_ ?_
  ·exact Chg.beh (kp.trans k1) c1 fun y hy ⟨a, ha, e⟩ => by have := (A.lt a ha).2; omega
  ·rw [List.take_add_one, hx]
   simpa using A'
theorem hsum_spec {k0 : Nat} (hk : 200 ≤ k0) (D : CallF) {n0 : Nat} {h : AHeap} {hb : Nat} {s : St} {rest : List UInt8} {long : Nat} (H : Hash n0 h hb s rest long) (hrl : rest.length < 64) (hlong : long ≤ 140737488351300) (kg : KG 0 h) :
  Wp (sha_Hash_Sum k0 D (some ⟨hb, 0, none⟩) h) fun q => q.1 = ⟨⟨outSt (absorb s (rest ++ (128 :: List.replicate (zeroN rest.length) 0 ++ be64 (long * 8))))⟩⟩ ∧ Keeps h q.2 := by
 simp only [sha_Hash_Sum]
 obtain ⟨h1, eb, e1, k1, F1, H1⟩ := fork_spec k0 D H (by omega)
 refine Wp.bnd e1 ?_
 let h2 := h1.new (.cells [.int .u8 128] 5 true 0)
 have k2 : Keeps h1 h2 := Keeps.new h1 _
 have F2 := F1.keeps k2
 have L2 : Lst encB 5 h1.next h2 (⟨some ⟨h1.next, 0, some 0⟩, 1, 1⟩ : Slc) [128] := ⟨by simp, h1.next, some 0, rfl, by simp [h2, outB, encB], Nat.le_refl _, by simp [h2], .inl rfl⟩
 refine Wp.jn fun j2 hj2 => ?_
 unfold sha_Hash_Sum_l2
 have hz : zeroN rest.length < 64 := Nat.mod_lt _ (by decide)
 obtain ⟨bot2, b2⟩ := iterK_of (fun _ _ _ _ => none) (sha_Hash_Sum_l2b k0 D j2) (show zeroN rest.length + 1 ≤ k0 by omega)
 rw [b2]
 refine sm_l2 (k0 := k0) D j2 bot2 (n0 := h.next) (long := long) hrl (h0 := h1) ?_ F1 (zeroN rest.length) 0 _ h2 (by omega) k2 L2
 intro h3 t3 k3 L3
 subst hj2
 dsimp only
 obtain ⟨r, HS3, _, _⟩ := (H1.keeps k3).ok
 refine Wp.bnd rfl (Wp.bnd (sldI_at HS3.blk (hcells_long (wl_length s))) ?_)
 refine Wp.jn fun j1 hj1 => ?_
 unfold sha_Hash_Sum_l1
 obtain ⟨bot1, b1⟩ := iterK_of (fun _ _ _ _ _ => none) (sha_Hash_Sum_l1b k0 D j1) (show 8 + 1 ≤ k0 by omega)
 rw [b1]
 have ec : IntKind.wrap .u64 (IntKind.wrap .u64 (long : Int) * 8) = ((long * 8 : Nat) : Int) := by
  rw [wr_u64 (long : Int) (by omega) (by omega), wr_u64 _ (by omega) (by omega)]; omega
 rw [ec]
 have hbase : (128 :: List.replicate (zeroN rest.length) (0 : UInt8)).length ≤ 1000 := by simp; omega
 have L3' : Lst encB 5 h1.next h3 t3 (128 :: List.replicate (zeroN rest.length) 0 ++ (be64 (long * 8)).take 0) := by simpa using L3
 have step := sm_l1 (k0 := k0) D j1 bot1 (Q := fun q => q.1 = ⟨⟨outSt (absorb s (rest ++ (128 :: List.replicate (zeroN rest.length) 0 ++ be64 (long * 8))))⟩⟩ ∧ Keeps h q.2) (e := some ⟨eb, 0, none⟩) (base := 128 :: List.replicate (zeroN rest.length) 0) hbase (long * 8) (h0 := h1) ?_ 8 0 t3 h3 (by omega) k3 L3'
 ·exact step
 intro h4 t4 k4 L4
 subst hj1
 dsimp only
 obtain ⟨tb, sp, rfl, g4, _, _, _⟩ := L4.st
 have bo := bytesOf_out (h := h4) (b := tb) (sp := sp) (cap := (128 :: List.replicate (zeroN rest.length) 0 ++ be64 (long * 8)).length) (l := 128 :: List.replicate (zeroN rest.length) 0 ++ be64 (long * 8)) (e := 5) (r := true) (fz := 0) g4
 refine Wp.bnd bo ?_
 have F4 := F1.keeps k4
 have tl : (128 :: List.replicate (zeroN rest.length) 0 ++ be64 (long * 8)).length ≤ 100 := by rw [List.length_append, be64_length]; simp; omega
 have tz : (⟨⟨128 :: List.replicate (zeroN rest.length) 0 ++ be64 (long * 8)⟩⟩ : ByteArray).size ≤ 100 := by rw [size_mk]; exact tl
 refine Wp.call (write_spec (k0 := k0) (by omega) D F4 (kg.chg (k1.trans k4) fun f => f) (by have := kg.lt; omega) ⟨⟨128 :: List.replicate (zeroN rest.length) 0 ++ be64 (long * 8)⟩⟩ (by omega) (by omega) (by omega)) fun q ⟨q1, q2⟩ => ?_
 obtain ⟨u5, hh5⟩ := q
 simp only at q1 q2 ⊢
 obtain ⟨r5, HS5, _, _⟩ := q1.ok
 refine Wp.jn fun j0 hj0 => ?_
 have tk : ∀ (u : St) (r : Slc) (l : Int), (hcells (wl u) r l).take 8 = (wl u).map encU := fun u r l => rfl
 have ld5 := sldA_take (sp := none) HS5.blk (show 0 < 8 by decide) (by rw [hcells_length (wl_length _)]; decide)
 rw [tk] at ld5
 refine Wp.bnd rfl (Wp.bnd ld5 (Wp.bnd rfl ?_))
 unfold sha_Hash_Sum_l0
 obtain ⟨bot0, b0⟩ := iterK_of (fun _ _ _ _ => none) (sha_Hash_Sum_l0b k0 D j0) (show 8 + 1 ≤ k0 by omega)
 rw [b0]
 have k5 : Keeps h hh5 := Chg.beh (k1.trans k4) q2 fun x hx e => by have e : h.next ≤ x := e; omega
 refine sm_l0 (k0 := k0) D j0 bot0 (absorb s (rest ++ bl ⟨⟨128 :: List.replicate (zeroN rest.length) 0 ++ be64 (long * 8)⟩⟩)) (h0 := hh5) ?_ 8 0 ⟨none, 0, 0⟩ hh5 (by omega) (Chg.refl _ _) (Acc.nil _ _ _ _)
 intro h6 t6 k6 A6
 subst hj0
 dsimp only
 rcases A6.st with ⟨_, e⟩ | ⟨b, g⟩
 ·simp [outSt, out32] at e
 ·have hg := g.s
  subst hg
  have bo := bytesOf_out (h := h6) (b := b) (sp := some 2) (cap := (outSt (absorb s (rest ++ bl ⟨⟨128 :: List.replicate (zeroN rest.length) 0 ++ be64 (long * 8)⟩⟩))).length) (l := outSt (absorb s (rest ++ bl ⟨⟨128 :: List.replicate (zeroN rest.length) 0 ++ be64 (long * 8)⟩⟩))) (e := 5) (r := true) (fz := 0) g.blk
  exact Wp.bnd bo (Wp.of ⟨rfl, k5.trans k6⟩)
end Ge.B
namespace Ge.B
open Go Gx Go.Proofs
def catL (xs : List ByteArray) : List UInt8 := (xs.map bl).flatten
theorem zeroN_mod (n : Nat) : zeroN (n % 64) = zeroN n := by unfold zeroN; rw [Nat.mod_mod]
theorem catL_take {xs : List ByteArray} {i : Nat} {x : ByteArray} (hx : xs[i]? = some x) : catL (xs.take (i + 1)) = catL (xs.take i) ++ bl x := by
 unfold catL
 rw [List.take_add_one, hx]
 simp
theorem catL_le (xs : List ByteArray) (i : Nat) : (catL (xs.take i)).length ≤ (catL xs).length := by
 have : catL xs = catL (xs.take i) ++ catL (xs.drop i) := by
  unfold catL
  rw [← List.flatten_append, ← List.map_append, List.take_append_drop]
 rw [this, List.length_append]; omega
theorem sum_spec {k0 : Nat} (hk : 200 ≤ k0) (D : CallF) {h : AHeap} {y : Slc} {xs : List ByteArray} (kg : KG 0 h) (R : Row encS h y xs) (hx : (catL xs).length ≤ 140737488351300) (hkx : (catL xs).length < 64 * k0) (hxl : xs.length < k0) (hxl2 : xs.length < 9223372036854775807) :
  Wp (sha_Sum k0 D y h) fun q => q.1 = ⟨⟨digest (catL xs)⟩⟩ ∧ Keeps h q.2 := by
 simp only [sha_Sum]
 obtain ⟨h1, hb, e1, k1, hle, H1⟩ := hnew_spec k0 D h
 refine Wp.bnd e1 ?_
 refine Wp.jn fun j hj => ?_
 unfold sha_Sum_l0
 obtain ⟨bot, b⟩ := iterK_of (fun _ _ _ _ _ => none) (sha_Sum_l0b k0 D j) (show xs.length + 1 ≤ k0 by omega)
 rw [b, R.1]
 have H1' : Hash h.next h1 hb st0 [] 0 := H1
 have main : ∀ (Q : ByteArray × AHeap → Prop), (∀ g, Chg (fun x => h.next ≤ x) h1 g → Hash h.next g hb (absorb st0 (catL xs)) (restOf (catL xs)) (catL xs).length → Wp (j (some ⟨hb, 0, none⟩) g) Q) →
   ∀ (d i : Nat) (g : AHeap), i + d = xs.length → Chg (fun x => h.next ≤ x) h1 g → Hash h.next g hb (absorb st0 (catL (xs.take i))) (restOf (catL (xs.take i))) (catL (xs.take i)).length →
    Wp (iterK bot (d + 1) (sha_Sum_l0b k0 D j) (some ⟨hb, 0, none⟩) y (xs.length : Int) (i : Int) g) Q := fun Q hQ d => by
  induction d with
  | zero =>
   intro i g hi c H
   rw [iterK_s]; simp only [sha_Sum_l0b]
   obtain rfl : i = xs.length := by omega
   rw [List.take_length] at H
   exact Wp.ifn (by simp) (hQ g c H)
  | succ d ih =>
   intro i g hi c H
   rw [iterK_s]; simp only [sha_Sum_l0b]
   have kp : Keeps h g := Chg.beh k1 c fun x hx e => by have e : h.next ≤ x := e; omega
   refine Wp.ifp (by simp; omega) ?_
   obtain ⟨x, hxi⟩ := isome (l := xs) (i := i) (by omega)
   obtain ⟨q, i1, i2⟩ := (R.keeps kp).ldS hxi
   refine Wp.bnd i1 (Wp.bnd i2 ?_)
   have hc := catL_take hxi
   have hle' := catL_le xs (i + 1)
   rw [hc, List.length_append, bl_length] at hle'
   have hrl := restOf_length (catL (xs.take i))
   refine Wp.call (write_spec (k0 := k0) (by omega) D H (kg.chg kp fun f => f) (by have := kg.lt; omega) x (by omega) (by omega) (by omega)) fun q ⟨q1, q2⟩ => ?_
   rw [Gx.w1 (by omega)]
   refine ih (i + 1) q.2 (by omega) (c.trans q2) ?_
   rw [hc, List.length_append, bl_length, ← absorb_app (bl x) _ st0 (catL (xs.take i)) (Nat.le_refl _), ← restOf_app]
   exact q1
 refine main _ ?_ xs.length 0 h1 (by omega) (Chg.refl _ _) ?_
 ·intro g c H
  subst hj
  dsimp only
  have kp : Keeps h g := Chg.beh k1 c fun x hx e => by have e : h.next ≤ x := e; omega
  refine Wp.call (hsum_spec hk D H (by rw [restOf_length]; omega) (by omega) (kg.chg kp fun f => f)) fun q ⟨q1, q2⟩ => ?_
  refine Wp.of ⟨?_, kp.trans q2⟩
  rw [q1, restOf_length, zeroN_mod, absorb_app _ _ _ _ (Nat.le_refl _)]
  rfl
 ·have e0 : catL (xs.take 0) = [] := rfl
  rw [e0, absorb_lt (by simp), restOf_lt (by simp)]
  exact H1'
end Ge.B
namespace Ge.B
open Go Gx
def fixL (n : Nat) : Nat → List UInt8
 | 0 => []
 | k + 1 => UInt8.ofNat (n / 256 ^ k) :: fixL n k
theorem fixL_length (n : Nat) : ∀ k, (fixL n k).length = k
 | 0 => rfl
 | k + 1 => by simp [fixL, fixL_length n k]
theorem fixL_get (n : Nat) : ∀ (k i : Nat), i < k → (fixL n k)[i]? = some (UInt8.ofNat (n / 256 ^ (k - 1 - i)))
 | 0, i, h => by omega
 | k + 1, 0, _ => by simp [fixL]
 | k + 1, i + 1, h => by
  simp only [fixL, List.getElem?_cons_succ]
  rw [fixL_get n k i (by omega)]
  congr 4; omega
def numL (a : Nat) : List UInt8 → Nat
 | [] => a
 | c :: l => numL (a * 256 + c.toNat) l
theorem numL_add (l : List UInt8) : ∀ (a : Nat), numL a l = a * 256 ^ l.length + numL 0 l := by
 induction l with
 | nil => intro a; simp [numL]
 | cons c l ih =>
  intro a
  simp only [numL, List.length_cons]
  rw [ih (a * 256 + c.toNat), ih (0 * 256 + c.toNat)]
  simp only [Nat.pow_succ, Nat.add_mul, Nat.zero_mul, Nat.zero_add]
  have : a * 256 * 256 ^ l.length = a * (256 ^ l.length * 256) := by rw [Nat.mul_assoc, Nat.mul_comm 256]
  omega
theorem numL_lt (l : List UInt8) : numL 0 l < 256 ^ l.length := by
 induction l with
 | nil => simp [numL]
 | cons c l ih =>
  simp only [numL, List.length_cons, Nat.zero_mul, Nat.zero_add]
  rw [numL_add]
  have hc : c.toNat < 256 := UInt8.toNat_lt c
  have : c.toNat * 256 ^ l.length + 256 ^ l.length ≤ 256 * 256 ^ l.length := by
   rw [← Nat.succ_mul]; exact Nat.mul_le_mul_right _ hc
  rw [Nat.pow_succ]; omega
theorem toNat_ofNat (n : Nat) : (UInt8.ofNat n).toNat = n % 256 := by simp
theorem num_fix (n : Nat) : ∀ k, numL 0 (fixL n k) = n % 256 ^ k
 | 0 => by simp [fixL, numL, Nat.mod_one]
 | k + 1 => by
  simp only [fixL, numL, Nat.zero_mul, Nat.zero_add]
  rw [numL_add, num_fix n k, fixL_length, toNat_ofNat]
  rw [Nat.pow_succ, Nat.mod_mul, Nat.mul_comm, Nat.add_comm]
theorem ofNat_mod (n : Nat) : UInt8.ofNat (n % 256) = UInt8.ofNat n := by
 apply UInt8.toNat_inj.1
 rw [toNat_ofNat, toNat_ofNat]; omega
end Ge.B
namespace Ge.B
open Go Gx Go.Proofs
theorem ldI_at {h : AHeap} {b o : Nat} {sp : Option Nat} {c : List Value} {e : TypeId} {r : Bool} {fz : Nat} {k : IntKind} {x : Int} (hb : h.get b = some (.cells c e r fz)) (hc : c[o]? = some (.int k x)) : ldI k ⟨b, o, sp⟩ h = some x := by
 simp [ldI, AHeap.rd1, hb, hc, decI]
theorem ldS_at {h : AHeap} {b o : Nat} {sp : Option Nat} {c : List Value} {e : TypeId} {r : Bool} {fz : Nat} {x : ByteArray} (hb : h.get b = some (.cells c e r fz)) (hc : c[o]? = some (.string x)) : ldS ⟨b, o, sp⟩ h = some x := by
 simp [ldS, AHeap.rd1, hb, hc, decS]
theorem wu8 (m : Nat) : IntKind.wrap .u8 (m : Int) = ((m % 256 : Nat) : Int) := by rw [Go.IntKind.wrap_u8]; omega
def fixP (n k i : Nat) : List UInt8 := (List.range k).map fun j => if k ≤ j + i then UInt8.ofNat (n / 256 ^ (k - 1 - j)) else 0
theorem fixP_length (n k i : Nat) : (fixP n k i).length = k := by simp [fixP]
theorem fixP_zero (n k : Nat) : fixP n k 0 = List.replicate k 0 := by
 apply List.ext_getElem?
 intro j
 simp only [fixP, List.getElem?_map, List.getElem?_replicate]
 by_cases hj : j < k
 ·simp [hj]; omega
 ·simp [hj]
theorem fixP_all (n k : Nat) : fixP n k k = fixL n k := by
 apply List.ext_getElem?
 intro j
 by_cases hj : j < k
 ·rw [fixL_get n k j hj]; simp [fixP, hj]
 ·rw [List.getElem?_eq_none (by rw [fixP_length]; omega), List.getElem?_eq_none (by rw [fixL_length]; omega)]
theorem fixP_set {n k i : Nat} (hi : i < k) : (fixP n k i).set (k - 1 - i) (UInt8.ofNat (n / 256 ^ i)) = fixP n k (i + 1) := by
 apply List.ext_getElem?
 intro j
 by_cases hj : j < k
 ·rw [List.getElem?_set]
  by_cases he : k - 1 - i = j
  ·rw [if_pos he, if_pos (by rw [fixP_length]; omega)]
   have : i = k - 1 - j := by omega
   subst this
   simp [fixP, hj]
   omega
  ·rw [if_neg he]
   simp only [fixP, List.getElem?_map, List.getElem?_range hj, Option.map_some, Option.some.injEq]
   by_cases h1 : k ≤ j + i
   ·rw [if_pos h1, if_pos (by omega)]
   ·rw [if_neg h1, if_neg (by omega)]
 ·rw [List.getElem?_eq_none (by rw [List.length_set, fixP_length]; omega), List.getElem?_eq_none (by rw [fixP_length]; omega)]
abbrev nfT := Int → Int → Slc → Int → Int → AHeap → Option ((ByteArray × Int) × AHeap)
theorem fix_l0 (K : Nat) (D : CallF) (j) (bot : nfT) {n k : Nat} (hn : n < 9223372036854775808) (hk : k ≤ 7) {b cap : Nat} {sp : Option Nat} {e : TypeId} : ∀ (m i : Nat) (h : AHeap), i + m = k → h.get b = some (.cells ((fixP n k i).map encB) e true 0) →
  iterK bot (m + 1) (num_Fixed_l0b K D j) (n : Int) (k : Int) (⟨some ⟨b, 0, sp⟩, k, cap⟩ : Slc) (k : Int) (i : Int) h = j (n : Int) (k : Int) (⟨some ⟨b, 0, sp⟩, k, cap⟩ : Slc) (h.set b (.cells ((fixL n k).map encB) e true 0))
 | 0, i, h, hi, hb => by
  obtain rfl : i = k := by omega
  rw [fixP_all] at hb
  rw [iterK_s]; simp only [num_Fixed_l0b]
  refine ifn (by simp) ?_
  rw [set_self hb]
 | m + 1, i, h, hi, hb => by
  rw [iterK_s]; simp only [num_Fixed_l0b]
  refine ifp (by simp; omega) ?_
  have e1 : IntKind.wrap .i64 (8 * (i : Int)) = ((8 * i : Nat) : Int) := by rw [w64 _ (by omega)]; omega
  have e2 : IntKind.wrap .i64 (IntKind.wrap .i64 ((k : Int) - 1) - (i : Int)) = ((k - 1 - i : Nat) : Int) := by rw [w64 ((k : Int) - 1) (by omega), w64 _ (by omega)]; omega
  rw [e1, e2]
  refine ifp (by omega) ?_
  refine bnd (idxL_out (by omega)) ?_
  rw [shr64 n (8 * i) (by omega), wu8]
  refine bnd (stB_out hb (by rw [fixP_length]; omega) (Nat.mod_lt _ (by decide))) ?_
  rw [w1 (by omega), ofNat_mod, Nat.pow_mul, show (2 : Nat) ^ 8 = 256 from rfl, fixP_set (by omega)]
  refine (fix_l0 K D j bot hn hk (e := e) m (i + 1) (h.set b (.cells ((fixP n k (i + 1)).map encB) e true 0)) (by omega) (by simp)).trans ?_
  rw [set_set]
theorem nfix_spec {kf : Nat} (hkf : 9 ≤ kf) (D : CallF) (n k : Nat) (h : AHeap) (hk1 : 1 ≤ k) (hk7 : k ≤ 7) (hn : n < 9223372036854775808) :
  ∃ h', num_Fixed kf D (n : Int) (k : Int) h = some ((if n < 256 ^ k then ((⟨⟨fixL n k⟩⟩ : ByteArray), 0) else ((⟨#[]⟩ : ByteArray), 1)), h') ∧ Keeps h h' := by
 simp only [num_Fixed]
 let H := (h.new (.cells ((List.replicate k (0 : UInt8)).map encB) 5 true 0)).set h.next (.cells ((fixL n k).map encB) 5 true 0)
 refine ⟨H, ?_, Chg.beh (Keeps.new h _) (Chg.set (S := fun x => x = h.next) (.inr rfl)) (fun x hx e => by have : x = h.next := e; omega)⟩
 refine jn ?_
 refine ifn (by simp <;> omega) ?_
 refine ifn (by simp <;> omega) ?_
 refine ifn (by simp <;> omega) ?_
 refine ifp (by omega) ?_
 refine jn ?_
 rw [Int.toNat_natCast, zeros_bytes]
 unfold num_Fixed_l0
 have hb : (h.new (.cells ((List.replicate k (0 : UInt8)).map encB) 5 true 0)).get h.next = some (.cells ((fixP n k 0).map encB) 5 true 0) := by rw [fixP_zero]; simp
 generalize hj : (fun (n7 : Int) (bytes8 : Int) (b9 : Slc) (h10 : AHeap) => joinK _ _) = j
 obtain ⟨bot', e2⟩ := iterK_of (α := nfT) (fun _ _ _ _ _ _ => none) (num_Fixed_l0b kf D j) (show k + 1 ≤ kf by omega)
 rw [e2]
 refine (fix_l0 kf D j bot' hn hk7 k 0 _ (by omega) hb).trans ?_
 subst hj
 refine jn ?_
 refine ifp (by simp; omega) ?_
 have e1 : IntKind.wrap .i64 (8 * (k : Int)) = ((8 * k : Nat) : Int) := by rw [w64 _ (by omega)]; omega
 rw [e1]
 refine ifp (by omega) ?_
 rw [shr64 n (8 * k) (by omega), Nat.pow_mul, show (2 : Nat) ^ 8 = 256 from rfl]
 by_cases hlt : n < 256 ^ k
 ·rw [if_pos hlt]
  refine ifn (by simp [Nat.div_eq_of_lt hlt]) ?_
  have hg : H.get h.next = some (.cells ((fixL n k).map encB) 5 true 0) := by simp [H]
  have := bytesOf_out (cap := k) (sp := some 0) hg
  rw [fixL_length] at this
  exact bnd this rfl
 ·rw [if_neg hlt]
  refine ifp ?_ rfl
  have : 0 < n / 256 ^ k := Nat.div_pos (by omega) (Nat.pow_pos (by decide))
  exact decide_eq_true (by omega)
end Ge.B
namespace Ge.B
open Go Gx Go.Proofs
theorem num_step {a i n : Nat} (h : a < 256 ^ i) (hi : i < n) (hn : n ≤ 7) : a * 256 + 256 ≤ 72057594037927936 := by
 have h1 : 256 ^ i ≤ 256 ^ 6 := Nat.pow_le_pow_right (by decide) (by omega)
 have : (256 : Nat) ^ 6 = 281474976710656 := by decide
 omega
theorem num_step2 {a i : Nat} {c : UInt8} (h : a < 256 ^ i) : a * 256 + c.toNat < 256 ^ (i + 1) := by
 have hc : c.toNat < 256 := UInt8.toNat_lt c
 rw [Nat.pow_succ]; omega
theorem ba_app (a b : List UInt8) : (⟨⟨a⟩⟩ : ByteArray) ++ (⟨⟨b⟩⟩ : ByteArray) = ⟨⟨a ++ b⟩⟩ := by
 apply bl_inj
 simp [bl]
end Ge.B
namespace Ge.B
open Go Gx Go.Proofs
end Ge.B
namespace Ge.B
open Go Gx Go.Proofs
end Ge.B
namespace Ge
open Go Gx
def knB (c : Nat) : Bool := decide (c = 1 ∨ c = 2 ∨ c = 17 ∨ c = 18)
def headP (l : List UInt8) : Option (Nat × Nat × List UInt8) :=
 match l with
 | [] => none
 | c :: t => match pS 65536 t with
  | some (n, r) => if knB c.toNat = true then some (c.toNat, n, r) else none
  | none => none
theorem bknown_spec (k : Nat) (D : CallF) (n : Int) (h : AHeap) : blob_known k D n h = some (decide (n = 1 ∨ n = 2), h) := by
 simp only [blob_known]
 by_cases c : n = 1
 ·rw [if_pos (by simpa using c)]; simp [c]
 ·rw [if_neg (by simpa using c)]
  congr 2
  by_cases d : n = 2
  ·simp [d]
  ·rw [decide_eq_false (fun q => q.elim c d)]; simpa using d
theorem kn_prog : ∀ a : Fin 256, decide (Go.bits .andNot .i64 (a.val : Int) 16 = 1 ∨ Go.bits .andNot .i64 (a.val : Int) 16 = 2) = knB a.val := by decide +kernel
theorem pS_suf {most : Nat} {l : List UInt8} {n : Nat} {r : List UInt8} (h : pS most l = some (n, r)) : n ≤ most ∧ ∃ m, m ≤ l.length ∧ r = l.drop m := by
 unfold pS at h
 cases hq : lebQ 9 true l with
 | none => rw [hq] at h; cases h
 | some p =>
  rw [hq] at h
  simp only [Option.bind_some] at h
  split at h
  ·cases h
  ·rename_i c
   cases h
   obtain ⟨m, h1, h2⟩ := lebQ_suf (n := n) (r := r) hq
   exact ⟨by omega, m, h1, h2⟩
section
variable {k : Nat} {h : AHeap} {s : ByteArray}
theorem head_spec (D : CallF) (hk : 20 ≤ k) (hs : s.size ≤ 1000000) :
  Gx.Wp (blob_head k D s h) fun z => Keeps h z.2 ∧ match headP (bl s) with
   | some (c, n, r) => z.1 = ((c : Int), (n : Int), ⟨⟨r⟩⟩, 0)
   | none => z.1 = (0, 0, ⟨#[]⟩, 130) := by
 simp only [blob_head, num_Read]
 obtain ⟨h1, e1⟩ : ∃ h1, h1 = h.new (.cells [.string s, .int .i64 0] 157 true 0) := ⟨_, rfl⟩
 have k1 : Keeps h h1 := e1 ▸ Keeps.new h _
 have g1 : h1.get h.next = some (.cells [.string s, .int .i64 0] 157 true 0) := by rw [e1]; simp
 have n1 : h1.next = h.next + 1 := by rw [e1]; rfl
 rw [← e1]
 refine .bnd rfl ?_
 have P1 : PRd h1 h.next (some (bl s)) := PRd.ok (l := bl s) g1 (by rw [bl_length]; exact hs)
 refine .call (rfixed_spec D hk (show h.next < h1.next by omega) P1) fun r2 ⟨q2, P2, c2⟩ => ?_
 refine .call (rshort_spec D hk P2 65536) fun r3 ⟨q3, P3, c3⟩ => Wp.jn fun j10 h10 => ?_
 rw [q2, q3]
 have n3 := (c2.trans c3).nx
 have kz : Keeps h r3.2 := k1.keepsS (c2.trans c3) fun y hy => by have hy : y = h.next := hy; omega
 have bad : ∀ a b, headP (bl s) = none → Gx.Wp (j10 s a b (some ⟨h.next, 0, none⟩) true r3.2) fun z => Keeps h z.2 ∧ match headP (bl s) with
   | some (c, n, r) => z.1 = ((c : Int), (n : Int), ⟨⟨r⟩⟩, 0)
   | none => z.1 = (0, 0, ⟨#[]⟩, 130) := fun a b hn => by
  rw [h10, hn]
  exact .ifp rfl (.of ⟨kz, rfl⟩)
 obtain ⟨S, e, g3, hS, he, hl⟩ := P3
 refine .bnd (err_spec D g3) ?_
 cases hb : bl s with
 | nil =>
  rw [hb] at he bad
  have : e ≠ 0 := fun q => by have := he.1 q; simp [opF, opS] at this
  exact .ifp (by simpa using this) (bad _ _ rfl)
 | cons c t =>
  rw [hb] at he bad hl
  have hcl := c.toNat_lt
  cases hp : pS 65536 t with
  | none =>
   have : e ≠ 0 := fun q => by have := he.1 q; simp [opF, opS, hp] at this
   exact .ifp (by simpa using this) (bad _ _ (by simp [headP, hp]))
  | some x =>
   obtain ⟨n, r⟩ := x
   have e0 : e = 0 := he.2 (by simp [opF, opS, hp])
   have eS := hl r (by simp [opF, opS, hp])
   refine .ifn (by simp [e0]) ?_
   have o1 : (opF (some (c :: t))).1 = c.toNat := rfl
   have o2 : (opS 65536 (opF (some (c :: t))).2).1 = n := by simp [opF, opS, hp]
   rw [o1, o2]
   refine .bnd (bknown_spec k D _ r3.2) ?_
   simp only []
   rw [kn_prog ⟨c.toNat, hcl⟩]
   by_cases ck : knB c.toNat = true
   ·have hh : headP (c :: t) = some (c.toNat, n, r) := by simp [headP, hp, ck]
    rw [hh, h10]
    obtain ⟨_, m, hm, er⟩ := pS_suf hp
    have st : t.length + 1 = s.size := by rw [← bl_length, hb]; rfl
    have lr : r.length = t.length - m := by rw [er, List.length_drop]
    have sS : S.size = r.length := by rw [eS]; rfl
    refine .ifn (by rw [ck]; simp) (.bnd (left_spec D g3) ?_)
    simp only []
    rw [show IntKind.wrap .i64 ((s.size : Int) - (S.size : Int)) = ((m + 1 : Nat) : Int) by rw [Gx.w64 _ (by omega)]; omega]
    refine .bnd (subS_of (i := m + 1) (j := s.size) rfl rfl (by omega) (Nat.le_refl _)) (.of ⟨kz, ?_⟩)
    rw [List.take_of_length_le (by rw [bl_length]; exact Nat.le_refl _), hb, List.drop_succ_cons, ← er]
   ·have ck' : knB c.toNat = false := by simpa using ck
    rw [ck']
    exact bad _ _ (by simp [headP, hp, ck'])
end
end Ge
namespace Ge
open Go Gx
def idB (c : Nat) (t : List UInt8) : ByteArray := ⟨⟨digest (UInt8.ofNat c :: t)⟩⟩
def isK (n : Int) : Bool := decide (n = 1 ∨ n = 2)
noncomputable def idV (n : Int) (t : List UInt8) : ByteArray × Int := if isK n = true then (idB n.toNat t, 0) else (⟨#[]⟩, 1)
theorem wrapK {n : Int} (h : isK n = true) : Value.int .u8 (IntKind.wrap .u8 n) = encB (UInt8.ofNat n.toNat) := by
 unfold isK at h
 simp only [decide_eq_true_eq] at h
 rcases h with h | h <;> subst h <;> rfl
section
variable {k : Nat} {h : AHeap} {t : ByteArray} {n : Int}
theorem one_byte {h h2 : AHeap} {b : UInt8} (g : h2.get h.next = some (.cells [encB b] 5 true 0)) : bytesOf h2 ⟨some ⟨h.next, 0, some 0⟩, 1, 1⟩ = some ⟨⟨[b]⟩⟩ :=
 bytesOf_out (l := [b]) g
theorem cat_two (a b : ByteArray) : B.catL [a, b] = bl a ++ bl b := by simp [B.catL]
theorem two_row {h : AHeap} {b : Nat} {x y : ByteArray} (g : h.get b = some (.cells [.string x, .string y] 9 true 0)) (hl : b < h.next) : Row encS h ⟨some ⟨b, 0, some 0⟩, 2, 2⟩ [x, y] :=
 Row.of_block (enc := encS) (xs := [x, y]) g hl fun i z hz => by
  match i with
  | 0 => simp at hz; subst hz; rfl
  | 1 => simp at hz; subst hz; rfl
  | i + 2 => simp at hz
theorem idV_no {n : Int} {t : List UInt8} (h : isK n = false) : idV n t = (⟨#[]⟩, 1) := by unfold idV; rw [h]; rfl
theorem idV_yes {n : Int} {t : List UInt8} (h : isK n = true) : idV n t = (idB n.toNat t, 0) := by unfold idV; rw [if_pos h]
theorem bid_spec (D : CallF) (kg : KG 0 h) (ht : t.size ≤ 140737488351232) (hk : 200 ≤ k) (hk2 : t.size + 100 < 32 * k) :
  Gx.Wp (blob_Id k D n t h) fun z => z.1 = idV n (bl t) ∧ Keeps h z.2 := by
 simp only [blob_Id]
 refine .bnd (bknown_spec k D n h) ?_
 have hd : decide (n = 1 ∨ n = 2) = isK n := rfl
 rw [hd]
 cases hn : isK n with
 | false =>
  exact .ifp rfl (.of ⟨(idV_no hn).symm, Chg.refl _ _⟩)
 | true =>
  refine .ifn (by simp) (Wp.newE fun h2 e2 k2 n2 g2 => ?_)
  rw [wrapK hn] at g2
  refine .bnd (one_byte g2) (Wp.newE fun h4 e4 k4 n4 g4 => ?_)
  have kg4 : KG 0 h4 := (kg.chg k2 fun f => f).chg k4 fun f => f
  refine .call (B.sum_spec hk D kg4 (two_row g4 (by omega)) (by rw [cat_two, bl_mk, List.length_append, bl_length]; simp; omega) (by rw [cat_two, bl_mk, List.length_append, bl_length]; simp; omega) (by simp; omega) (by simp)) fun r5 ⟨q5, k5⟩ => .of ⟨?_, (k2.trans k4).trans k5⟩
  rw [q5, cat_two, bl_mk, idV_yes hn]; rfl
def encP (c : Nat) (t : List UInt8) : List UInt8 := if (packA t).length < t.length then UInt8.ofNat (c + 16) :: (leb t.length ++ packA t) else UInt8.ofNat c :: (leb t.length ++ t)
noncomputable def encV (n : Int) (t : ByteArray) : ByteArray × Int := if isK n = true then (if 65536 < t.size then (⟨#[]⟩, 2) else (⟨⟨encP n.toNat (bl t)⟩⟩, 0)) else (⟨#[]⟩, 1)
theorem wrapK16 {n : Int} (h : isK n = true) : Value.int .u8 (IntKind.wrap .u8 (Go.bits .or .i64 n 16)) = encB (UInt8.ofNat (n.toNat + 16)) := by
 unfold isK at h
 simp only [decide_eq_true_eq] at h
 rcases h with h | h <;> subst h <;> rfl
theorem ba3 (a b c : List UInt8) : ((⟨⟨a⟩⟩ : ByteArray) ++ (⟨⟨b⟩⟩ : ByteArray)) ++ (⟨⟨c⟩⟩ : ByteArray) = ⟨⟨a ++ (b ++ c)⟩⟩ := by
 apply bl_inj
 simp [bl]
theorem packL_len (s : List UInt8) : ∀ (f i kept : Nat) (es : List Fr) (out : List UInt8), kept ≤ i → i ≤ s.length → out.length ≤ 2 * kept → (packL s f i kept es out).length ≤ 2 * s.length + 2
 | 0, i, kept, es, out, h1, h2, h3 => by simp [packL]; omega
 | f + 1, i, kept, es, out, h1, h2, h3 => by
  unfold packL
  split
  ·split
   ·rename_i c4
    have sq := seqB_len (l := (s.take i).drop kept) (d := (bestF s i es).1) c4
    have sl2 : ((s.take i).drop kept).length = i - kept := by simp; omega
    refine packL_len s f _ _ _ _ (Nat.le_refl _) (by omega) ?_
    rw [List.length_append]; omega
   ·exact packL_len s f _ _ _ _ (by omega) (by omega) h3
  ·have h1 := numB_len (s.drop kept).length
   unfold seqB
   rw [if_neg (by omega)]
   simp only [List.length_append, List.length_cons, List.length_nil, List.length_drop] at h1 ⊢
   omega
theorem packA_len (l : List UInt8) : (packA l).length ≤ 2 * l.length + 2 := packL_len l _ 0 0 [] [] (Nat.le_refl _) (by omega) (by simp)
theorem encV_no {n : Int} (h : isK n = false) : encV n t = (⟨#[]⟩, 1) := by unfold encV; rw [h]; rfl
theorem encV_long {n : Int} (h : isK n = true) (c : 65536 < t.size) : encV n t = (⟨#[]⟩, 2) := by unfold encV; rw [if_pos h, if_pos c]
theorem encV_yes {n : Int} (h : isK n = true) (c : ¬ 65536 < t.size) : encV n t = (⟨⟨encP n.toNat (bl t)⟩⟩, 0) := by unfold encV; rw [if_pos h, if_neg c]
theorem bencode_spec (D : CallF) (hk : 1200000 ≤ k) :
  Gx.Wp (blob_Encode k D n t h) fun z => z.1 = encV n t ∧ Keeps h z.2 := by
 simp only [blob_Encode]
 refine .bnd (bknown_spec k D n h) ?_
 have hd : decide (n = 1 ∨ n = 2) = isK n := rfl
 rw [hd]
 cases hn : isK n with
 | false => exact .ifp rfl (.of ⟨(encV_no hn).symm, Chg.refl _ _⟩)
 | true =>
  refine .ifn (by simp) ?_
  by_cases c : 65536 < t.size
  ·exact .ifp (by simp; omega) (.of ⟨(encV_long hn c).symm, Chg.refl _ _⟩)
  rw [encV_yes hn c]
  refine .ifn (by simp; omega) (.call (short_spec D (by omega) t.size (by omega) h) fun r2 ⟨q2, k2⟩ => .call (pack_spec D (by omega) (by omega)) fun r3 ⟨q3, k3⟩ => Wp.jn fun j10 h10 => ?_)
  have kz := k2.trans k3
  have bt : (bl t).length = t.size := bl_length t
  have ll : (leb t.size).length ≤ 3 := leb_len 2 t.size (by omega)
  have pl := packA_len (bl t)
  have J : ∀ y, y = decide ((packA (bl t)).length < (bl t).length) → Gx.Wp (j10 n t (bA (leb t.size)) ⟨⟨packA (bl t)⟩⟩ y r3.2) fun z => z.1 = ((⟨⟨encP n.toNat (bl t)⟩⟩ : ByteArray), (0 : Int)) ∧ Keeps h z.2 := fun y hy => by
   rw [h10]
   by_cases cc : (packA (bl t)).length < (bl t).length
   ·have ee : encP n.toNat (bl t) = UInt8.ofNat (n.toNat + 16) :: (leb t.size ++ packA (bl t)) := by unfold encP; rw [if_pos cc, bt]
    rw [ee]
    refine .ifp (by rw [hy]; simpa using cc) (Wp.newE fun h11 e11 k11 n11 g11 => ?_)
    rw [wrapK16 hn] at g11
    refine .bnd (one_byte g11) (.ifp ?_ (.ifp ?_ (.of ⟨?_, kz.trans k11⟩)))
    ·show 1 + (leb t.size).length ≤ _; omega
    ·rw [ByteArray.size_append]
     show 1 + (leb t.size).length + (packA (bl t)).length ≤ _
     omega
    ·show (((⟨⟨_⟩⟩ : ByteArray) ++ bA (leb t.size)) ++ (⟨⟨_⟩⟩ : ByteArray), (0 : Int)) = _
     rw [bA, ba3]; rfl
   ·have ee : encP n.toNat (bl t) = UInt8.ofNat n.toNat :: (leb t.size ++ bl t) := by unfold encP; rw [if_neg cc, bt]
    rw [ee]
    refine .ifn (by rw [hy]; simpa using cc) (Wp.newE fun h11 e11 k11 n11 g11 => ?_)
    rw [wrapK hn] at g11
    refine .bnd (one_byte g11) (.ifp ?_ (.ifp ?_ (.of ⟨?_, kz.trans k11⟩)))
    ·show 1 + (leb t.size).length ≤ _; omega
    ·rw [ByteArray.size_append]
     show 1 + (leb t.size).length + t.size ≤ _
     omega
    ·have := ba3 [UInt8.ofNat n.toNat] (leb t.size) (bl t)
     show (((⟨⟨_⟩⟩ : ByteArray) ++ bA (leb t.size)) ++ t, (0 : Int)) = _
     rw [bA]
     exact congrArg (·, (0 : Int)) this
  rw [q2, q3]
  exact .ifp rfl (J _ (by rw [bt, size_mk]; simp))
end
end Ge
namespace Ge
open Go Gx
def bdecP (l : List UInt8) : Option (Nat × List UInt8) :=
 match headP l with
 | none => none
 | some (c, n, r) => if c < 16 then (if r.length = n then some (c, r) else none) else (unpB r (n : Int)).map fun t => (c - 16, t)
theorem kn_and : ∀ a : Fin 256, knB a.val = true → (Go.bits .and .i64 (a.val : Int) 16 == 0) = decide (a.val < 16) ∧ (a.val < 16 → Go.bits .andNot .i64 (a.val : Int) 16 = (a.val : Int)) ∧ (¬ a.val < 16 → Go.bits .andNot .i64 (a.val : Int) 16 = ((a.val - 16 : Nat) : Int)) := by decide +kernel
theorem knB_lt {c : Nat} (h : knB c = true) : c < 256 := by
 unfold knB at h
 simp only [decide_eq_true_eq] at h
 omega
theorem headP_kn {l : List UInt8} {c n : Nat} {r : List UInt8} (h : headP l = some (c, n, r)) : knB c = true ∧ n ≤ 65536 ∧ r.length + 1 ≤ l.length := by
 unfold headP at h
 split at h
 ·cases h
 ·rename_i c0 t
  split at h
  ·rename_i n0 r0 hp
   split at h
   ·rename_i hk
    cases h
    obtain ⟨h1, m, h2, h3⟩ := pS_suf hp
    refine ⟨hk, h1, ?_⟩
    rw [h3, List.length_drop, List.length_cons]; omega
   ·cases h
  ·cases h
theorem decP_kn {l t : List UInt8} {c : Nat} (h : bdecP l = some (c, t)) : isK (c : Int) = true ∧ t.length ≤ 1048576 + l.length := by
 unfold bdecP at h
 split at h
 ·cases h
 ·rename_i c0 n r hh
  obtain ⟨hk, hn, hr⟩ := headP_kn hh
  unfold knB at hk
  simp only [decide_eq_true_eq] at hk
  split at h
  ·split at h
   ·cases h
    exact ⟨by unfold isK; simp only [decide_eq_true_eq]; omega, by omega⟩
   ·cases h
  ·cases hu : unpB r (n : Int) with
   | none => rw [hu] at h; cases h
   | some x =>
    rw [hu] at h
    cases h
    have := unpB_len hu
    exact ⟨by unfold isK; simp only [decide_eq_true_eq]; omega, by omega⟩
noncomputable def bdecV (l : List UInt8) : Int × ByteArray × Int := match bdecP l with
 | some (c, t) => ((c : Int), ⟨⟨t⟩⟩, 0)
 | none => (0, ⟨#[]⟩, 130)
section
variable {k : Nat} {h : AHeap} {s : ByteArray}
theorem decode_spec (D : CallF) (hk : 1200000 ≤ k) (hs : s.size ≤ 4000) : Gx.Wp (blob_Decode k D s h) fun z => z.1 = bdecV (bl s) ∧ Keeps h z.2 := by
 simp only [blob_Decode]
 refine .call (head_spec D (by omega) (by omega)) fun r1 ⟨k1, q1⟩ => Wp.jn fun j7 h7 => ?_
 have bs : (bl s).length = s.size := bl_length s
 cases hh : headP (bl s) with
 | none =>
  rw [hh] at q1
  have e : bdecV (bl s) = (0, ⟨#[]⟩, 130) := by unfold bdecV bdecP; rw [hh]
  rw [e]
  refine .ifp (by rw [q1]; rfl) (.of ⟨by rw [q1], k1⟩)
 | some x =>
  obtain ⟨c, n, r⟩ := x
  rw [hh] at q1
  simp only [] at q1
  obtain ⟨hkn, hn, hr⟩ := headP_kn hh
  obtain ⟨a1, a2, a3⟩ := kn_and ⟨c, knB_lt hkn⟩ hkn
  simp only [] at a1 a2 a3
  rw [q1]
  refine .ifn (by simp) ?_
  dsimp only
  rw [a1]
  have J : ∀ (tx : ByteArray) (e : Int) (H : AHeap), Keeps h H → (∀ m : Nat, e = 0 → (tx.size : Int) = (n : Int) → Go.bits .andNot .i64 (c : Int) 16 = (m : Int) → bdecV (bl s) = ((m : Int), tx, 0)) → (¬ (e = 0 ∧ (tx.size : Int) = (n : Int)) → bdecV (bl s) = (0, ⟨#[]⟩, 130)) →
    (∃ m : Nat, Go.bits .andNot .i64 (c : Int) 16 = (m : Int)) → Gx.Wp (j7 (c : Int) tx e (n : Int) H) fun z => z.1 = bdecV (bl s) ∧ Keeps h z.2 := fun tx e H kH f1 f2 ⟨m, hm⟩ => by
   rw [h7]
   refine Wp.jn fun j12 h12 => ?_
   by_cases ce : e = 0
   ·refine .ifn (by simp [ce]) ?_
    rw [h12]
    by_cases cl : (tx.size : Int) = (n : Int)
    ·exact .ifn (by simp [cl]) (.of ⟨by rw [f1 m ce cl hm, hm], kH⟩)
    ·exact .ifp (by simpa using cl) (.of ⟨by rw [f2 fun q => cl q.2], kH⟩)
   ·refine .ifp (by simpa using ce) ?_
    rw [h12]
    exact .ifp rfl (.of ⟨by rw [f2 fun q => ce q.1], kH⟩)
  have sz : (⟨⟨r⟩⟩ : ByteArray).size = r.length := size_mk _
  by_cases c16 : c < 16
  ·refine .ifp (by simpa using c16) (J _ _ _ k1 (fun m _ hl hm => ?_) (fun hl => ?_) ⟨c, a2 c16⟩)
   ·have em : m = c := by have := a2 c16; omega
    unfold bdecV bdecP
    rw [hh]; simp only []
    rw [if_pos c16, if_pos (by omega), em]
   ·unfold bdecV bdecP
    rw [hh]; simp only []
    rw [if_pos c16, if_neg (fun q => hl ⟨rfl, by omega⟩)]
  ·refine .ifn (by simpa using c16) (.call (unpack_spec D (by omega) (by omega) (n : Int)) fun r13 ⟨k13, q13⟩ => ?_)
   have kz := k1.trans k13
   cases hu : unpB r (n : Int) with
   | none =>
    rw [bl_mk, hu] at q13
    refine J _ _ _ kz (fun m h0 _ _ => absurd h0 q13.2) (fun _ => ?_) ⟨c - 16, a3 c16⟩
    unfold bdecV bdecP
    rw [hh]; simp only []
    rw [if_neg c16, hu]; rfl
   | some tx =>
    rw [bl_mk, hu] at q13
    simp only [] at q13
    rw [q13]
    have ul := unpB_len hu
    have ed : bdecV (bl s) = (((c - 16 : Nat) : Int), ⟨⟨tx⟩⟩, 0) := by
     unfold bdecV bdecP
     rw [hh]; simp only []
     rw [if_neg c16, hu]; rfl
    refine J _ _ _ kz (fun m _ _ hm => ?_) (fun hl => absurd ⟨rfl, ?_⟩ hl) ⟨c - 16, a3 c16⟩
    ·have em : m = c - 16 := by have := a3 c16; omega
     rw [ed, em]
    ·rw [size_mk]; exact ul.1
noncomputable def opnV (l : List UInt8) (id : ByteArray) : Int × ByteArray × Int := match bdecP l with
 | some (c, t) => if idB c t = id then ((c : Int), ⟨⟨t⟩⟩, 0) else (0, ⟨#[]⟩, 130)
 | none => (0, ⟨#[]⟩, 130)
theorem open_spec (D : CallF) (kg : KG 0 h) (hk : 1200000 ≤ k) (hs : s.size ≤ 4000) (id : ByteArray) : Gx.Wp (blob_Open k D s id h) fun z => z.1 = opnV (bl s) id ∧ Keeps h z.2 := by
 simp only [blob_Open]
 have bs : (bl s).length = s.size := bl_length s
 refine .call (decode_spec D hk hs) fun r1 ⟨q1, k1⟩ => ?_
 unfold opnV
 unfold bdecV at q1
 cases hd : bdecP (bl s) with
 | none =>
  rw [hd] at q1
  rw [q1]
  exact .ifp rfl (.of ⟨rfl, k1⟩)
 | some x =>
  obtain ⟨c, t⟩ := x
  rw [hd] at q1
  simp only [] at q1
  obtain ⟨e1, e2⟩ := decP_kn hd
  rw [q1]
  refine .ifn (by simp) (.call (bid_spec D (kg.chg k1 fun f => f) (by rw [size_mk]; omega) (by omega) (by rw [size_mk]; omega)) fun r2 ⟨q2, k2⟩ => ?_)
  rw [q2, bl_mk, idV_yes e1, Int.toNat_natCast]
  simp only []
  by_cases ci : idB c t = id
  ·rw [if_pos ci]
   exact .ifn (by rw [ba_beq]; simp [ci]) (.of ⟨rfl, k1.trans k2⟩)
  ·rw [if_neg ci]
   exact .ifp (by rw [ba_beq]; simpa using ci) (.of ⟨rfl, k1.trans k2⟩)
end
end Ge
namespace Ge
open Go Gx
section
variable {k : Nat} {h : AHeap} {s : ByteArray}
end
end Ge
namespace Ge
open Go Gx
theorem tru {x : Option (Bool × AHeap)} (w : Gx.Wp x fun z => z.1 = true) : ∃ h', x = some (true, h') := by
 obtain ⟨⟨b, h'⟩, e, q⟩ := w
 exact ⟨h', by rw [e, show b = true from q]⟩
end Ge
namespace Ge
open Go Gx
theorem pS_ofl {n : Nat} (hn : n ≤ 65536) (r : List UInt8) : pS 65536 (leb n ++ r) = some (n, r) := by
 unfold pS
 rw [lebQ_of 8 r (by omega) (fun h => by cases h)]
 simp; omega
theorem headP_enc {c n : Nat} (hc : knB c = true) (hn : n ≤ 65536) (r : List UInt8) : headP (UInt8.ofNat c :: (leb n ++ r)) = some (c, n, r) := by
 have hlt := knB_lt hc
 have e : (UInt8.ofNat c).toNat = c := by rw [UInt8.toNat_ofNat']; omega
 unfold headP
 simp only []
 rw [pS_ofl hn]
 simp only []
 rw [e, if_pos hc]
theorem unp_pack (t : List UInt8) (h : t.length ≤ 65536) : unpB (packA t) (t.length : Int) = some t := by
 obtain ⟨qs, h1, h2⟩ := unz_pack t
 unfold unpB
 rw [h1]
 simp only []
 rw [if_pos ⟨trivial, by omega⟩, h2]
theorem decP_enc {c : Nat} (hc : c = 1 ∨ c = 2) {t : List UInt8} (ht : t.length ≤ 65536) : bdecP (encP c t) = some (c, t) := by
 unfold encP bdecP
 by_cases cc : (packA t).length < t.length
 ·rw [if_pos cc, headP_enc (by unfold knB; simp only [decide_eq_true_eq]; omega) ht]
  simp only []
  rw [if_neg (by omega), unp_pack t ht]
  simp
 ·rw [if_neg cc, headP_enc (by unfold knB; simp only [decide_eq_true_eq]; omega) ht]
  simp only []
  rw [if_pos (by omega), if_pos trivial]
theorem encP_len {c : Nat} {t : List UInt8} (ht : t.length ≤ 65536) : (encP c t).length ≤ t.length + 4 ∧ 2 ≤ (encP c t).length := by
 have ll : (leb t.length).length ≤ 3 := leb_len 2 t.length (by omega)
 have l1 := leb_pos t.length
 unfold encP
 split
 ·simp only [List.length_cons, List.length_append]; omega
 ·simp only [List.length_cons, List.length_append]; omega
def amN (n : Nat) (x : Int) : Nat := (Int.tmod (Int.tmod x n + n) n).toNat
theorem amN_lt {n : Nat} (hn : 0 < n) (x : Int) : amN n x < n := by
 unfold amN
 have h2 : -(n : Int) < Int.tmod x n := by
  have := Int.lt_tmod_of_pos x (show (0 : Int) < n by omega)
  omega
 rw [Int.tmod_eq_emod_of_nonneg (by omega)]
 have := Int.emod_lt_of_pos (Int.tmod x n + n) (show (0 : Int) < n by omega)
 have := Int.emod_nonneg (Int.tmod x n + n) (show (n : Int) ≠ 0 by omega)
 omega
theorem among_eq {n : Nat} (hn : 0 < n) (hn2 : n < 1000000) (k : Nat) (D : CallF) (x : Int) (h : AHeap) : book_Among k D x (n : Int) h = some ((amN n x : Int), h) := by
 have h1 := Int.tmod_lt_of_pos x (show (0 : Int) < n by omega)
 have h2 : -(n : Int) < Int.tmod x n := by
  have := Int.lt_tmod_of_pos x (show (0 : Int) < n by omega)
  omega
 simp only [book_Among]
 rw [if_neg (by omega), if_neg (by omega), w64 _ (by omega)]
 have : 0 ≤ Int.tmod (Int.tmod x n + n) n := by
  rw [Int.tmod_eq_emod_of_nonneg (by omega)]; exact Int.emod_nonneg _ (by omega)
 unfold amN
 rw [Int.toNat_of_nonneg this]
section
variable {k : Nat} {h : AHeap} {t : ByteArray}
end
end Ge
namespace Ge
open Go Gx
theorem wstr {k pb o base : Nat} {H : AHeap} {c : List Value} {s : Slc} {l : List UInt8} {pv : Value} (D : CallF) (g : H.get pb = some (.cells c 105 true 0)) (hl : pb < H.next) (hpc : c[o]? = some pv) (hpv : pv = .pointer none ∨ pv = .pointer (some ⟨pb, o, none⟩))
  (hs : c[o + 1]? = some (.slice s.a s.len s.cap)) (ht : tabIn 105 o c.length ccTab = true) (A : Acc encB 5 base H s l) (ne : ∀ a, s.a = some a → a.block ≠ pb) (hb : base ≤ H.next) (x : ByteArray) (hx : 2 * (l.length + x.size) ≤ 281474976710656) :
  Gx.Wp (strings_Builder_WriteString k D (some ⟨pb, o, none⟩) x H) fun z => ∃ s', z.2.get pb = some (.cells ((c.set o (.pointer (some ⟨pb, o, none⟩))).set (o + 1) (.slice s'.a s'.len s'.cap)) 105 true 0) ∧ Acc encB 5 base z.2 s' (l ++ bl x) ∧ Chg (fun y => y = pb ∨ ofS s y) H z.2 ∧ (∀ a, s'.a = some a → H.next ≤ a.block ∨ ofS s a.block) ∧ H.next ≤ z.2.next := by
 simp only [strings_Builder_WriteString]
 have ho : o + 1 < c.length := (List.getElem?_eq_some_iff.1 hs).1
 obtain ⟨H1, e1, g1, c1⟩ : ∃ H1, ccA ccTab ⟨pb, o, none⟩ H = some H1 ∧ H1.get pb = some (.cells (c.set o (.pointer (some ⟨pb, o, none⟩))) 105 true 0) ∧ Chg (· = pb) H H1 := by
  rcases hpv with rfl | rfl
  ·refine ⟨_, ?_, sset_get _ _ _, Chg.set (.inr rfl)⟩
   ·unfold ccA
    simp only [g]
    rw [if_pos ⟨ht, trivial⟩]
    simp only [hpc]
    rw [st1_of g (by omega) rfl]
  ·have e : c.set o (.pointer (some ⟨pb, o, none⟩)) = c := by
    apply List.ext_getElem?
    intro j
    rw [List.getElem?_set]
    split
    ·rename_i h; subst h; rw [if_pos (by omega), hpc]
    ·rfl
   refine ⟨H, ?_, by rw [e]; exact g, .refl _ _⟩
   ·unfold ccA
    simp only [g]
    rw [if_pos ⟨ht, trivial⟩]
    simp [hpc]
 have nx1 := c1.nx
 have A1 : Acc encB 5 base H1 s l := A.chg c1 fun a ha e => ne a ha e
 obtain ⟨s', h5, a5, A5, c5, d5⟩ : ∃ s' h5, appendA 1 1 5 H1 s (bytesL x) x.size = some (s', h5) ∧ Acc encB 5 base h5 s' (l ++ bl x) ∧ Chg (ofS s) H1 h5 ∧ ∀ a, s'.a = some a → H1.next ≤ a.block ∨ ofS s a.block := by
  obtain ⟨s', h5, p1, p2, p3, p4⟩ := A1.app (fun _ => rfl) (bl x) (bytes := 1) (by have : (bl x).length = x.size := rfl; omega) (by decide) (by omega)
  exact ⟨s', h5, p1, p2, p3, fun a ha => (p4 a ha).imp id fun q => ⟨a, q, rfl⟩⟩
 have n5 := c5.nx
 have g5 := c5.got (show pb < H1.next by omega) (fun ⟨a, ha, e⟩ => ne a ha e.symm) g1
 have hs1 : (c.set o (.pointer (some ⟨pb, o, none⟩)))[o + 1]? = some (.slice s.a s.len s.cap) := by rw [List.getElem?_set_ne (by omega)]; exact hs
 refine .bnd rfl (.bnd e1 (.bnd rfl (.bnd (sldL_at g1 hs1) (.bnd a5 (.bnd rfl (.bnd (st1_of g5 (by simp; omega) rfl) (.of ?_)))))))
 have d5' : ∀ a, s'.a = some a → a.block ≠ pb := fun a ha e => by
  rcases d5 a ha with q | ⟨b, hb, q⟩
  ·omega
  ·exact ne b hb (q ▸ e)
 refine ⟨s', sset_get _ _ _, A5.chg (S := (· = pb)) (Chg.set (.inr rfl)) fun a ha e => d5' a ha e, ?_, fun a ha => (d5 a ha).imp (fun q => by omega) id, by show H.next ≤ h5.next; omega⟩
 exact Chg.beh (T := (· = pb)) (Chg.beh (T := ofS s) (c1.wk fun y _ e => .inl e) c5 fun y _ e => .inr e) (Chg.set (.inr rfl)) fun y _ e => .inl e
def sK (s : ByteArray) : Value := .string s
abbrev PSt := List UInt8 × List UInt8 × List It × List (ByteArray × ByteArray × Nat)
def pCells (p1 p2 : Value) (s1 s2 si : Slc) (lim : Int) (mb : Nat) : List Value :=
 [p1, .slice s1.a s1.len s1.cap, .int .i64 lim, p2, .slice s2.a s2.len s2.cap, .slice si.a si.len si.cap, .map (some mb)]
structure PB (H : AHeap) (pb mb : Nat) (s1 s2 si : Slc) (lim : Int) (q : PSt) : Prop where
 g : ∃ p1 p2, H.get pb = some (.cells (pCells p1 p2 s1 s2 si lim mb) 105 true 0) ∧ (p1 = .pointer none ∨ p1 = .pointer (some ⟨pb, 0, none⟩)) ∧ (p2 = .pointer none ∨ p2 = .pointer (some ⟨pb, 3, none⟩))
 A1 : Acc encB 5 (pb + 1) H s1 q.1
 A2 : Acc encB 5 (pb + 1) H s2 q.2.1
 A3 : AccW 6 itC 57 (pb + 1) H si q.2.2.1
 M : MapAt sK sK H mb q.2.2.2
 lt : pb < H.next
 mlt : pb < mb ∧ mb < H.next
 ap : ApartS s1 s2
section
variable {k pb mb : Nat} {H H' : AHeap} {s1 s2 si : Slc} {lim : Int} {q : PSt}
theorem PB.chg {S : Nat → Prop} (B : PB H pb mb s1 s2 si lim q) (c : Chg S H H') (hs : ∀ y, S y → y < pb ∨ H.next ≤ y) : PB H' pb mb s1 s2 si lim q := by
 have nx := c.nx
 have hm := B.mlt
 have hl := B.lt
 have no : ∀ y, pb ≤ y → y < H.next → ¬ S y := fun y h1 h2 h3 => by have := hs y h3; omega
 obtain ⟨p1, p2, g, h1, h2⟩ := B.g
 exact ⟨⟨p1, p2, c.got hl (no _ (Nat.le_refl _) hl) g, h1, h2⟩, B.A1.chg c fun a ha => no _ (by have := B.A1.lt a ha; omega) (B.A1.lt a ha).1, B.A2.chg c fun a ha => no _ (by have := B.A2.lt a ha; omega) (B.A2.lt a ha).1,
  B.A3.chg c fun a ha => no _ (by have := B.A3.lt a ha; omega) (B.A3.lt a ha).1, B.M.chg c hm.2 (no _ (by omega) hm.2), by omega, by omega, B.ap⟩
theorem PB.keeps (B : PB H pb mb s1 s2 si lim q) (c : Keeps H H') : PB H' pb mb s1 s2 si lim q := B.chg c fun _ f => f.elim
theorem acc_cells {base : Nat} {s : Slc} {l : List UInt8} {a : Addr} (A : Acc encB 5 base H s l) (ha : s.a = some a) : ∃ c, H.get a.block = some (.cells c 5 true 0) := by
 rcases A.st with ⟨h, _⟩ | ⟨b, g⟩
 ·rw [h] at ha; cases ha
 ·rw [g.s] at ha; cases ha; exact ⟨_, g.blk⟩
theorem accW_cells {base : Nat} {s : Slc} {l : List It} {a : Addr} (A : AccW 6 itC 57 base H s l) (ha : s.a = some a) : ∃ c, H.get a.block = some (.cells c 57 true 0) := by
 rcases A.st with ⟨h, _⟩ | ⟨b, h, g, _⟩
 ·rw [h] at ha; cases ha
 ·rw [h] at ha; cases ha; exact ⟨_, g⟩
theorem PB.ne13 (B : PB H pb mb s1 s2 si lim q) {s : Slc} {base : Nat} {l : List UInt8} (A : Acc encB 5 base H s l) {a : Addr} (ha : si.a = some a) : ¬ ofS s a.block := fun ⟨b, hb, e⟩ => by
 obtain ⟨c1, g1⟩ := acc_cells A hb
 obtain ⟨c2, g2⟩ := accW_cells B.A3 ha
 rw [e, g1] at g2
 cases g2
theorem PB.neM (B : PB H pb mb s1 s2 si lim q) {s : Slc} {base : Nat} {l : List UInt8} (A : Acc encB 5 base H s l) : ¬ ofS s mb := fun ⟨b, hb, e⟩ => by
 obtain ⟨c1, g1⟩ := acc_cells A hb
 have g2 : H.get mb = some (.map _ _) := B.M
 rw [e, g1] at g2
 cases g2
theorem PB.ld1 (B : PB H pb mb s1 s2 si lim q) : ldL ⟨pb, 0 + 0 + 0 + 1, none⟩ H = some s1 := by obtain ⟨p1, p2, g, _⟩ := B.g; exact sldL_at g rfl
theorem PB.ld2 (B : PB H pb mb s1 s2 si lim q) : ldL ⟨pb, 0 + 3 + 1, none⟩ H = some s2 := by obtain ⟨p1, p2, g, _⟩ := B.g; exact sldL_at g rfl
theorem PB.ld3 (B : PB H pb mb s1 s2 si lim q) : ldL ⟨pb, 0 + 5, none⟩ H = some si := by obtain ⟨p1, p2, g, _⟩ := B.g; exact sldL_at g rfl
theorem PB.ldl (B : PB H pb mb s1 s2 si lim q) : ldI .i64 ⟨pb, 0 + 2, none⟩ H = some lim := by obtain ⟨p1, p2, g, _⟩ := B.g; exact sldI_at g rfl
theorem PB.ldm (B : PB H pb mb s1 s2 si lim q) : ldM ⟨pb, 0 + 6, none⟩ H = some (some mb) := by obtain ⟨p1, p2, g, _⟩ := B.g; exact ldM_at g rfl
theorem PB.len1 (B : PB H pb mb s1 s2 si lim q) (D : CallF) : strings_Builder_Len k D (some ⟨pb, 0 + 0 + 0, none⟩) H = some ((q.1.length : Int), H) := by
 simp only [strings_Builder_Len]
 have : s1.len = q.1.length := B.A1.row.1
 exact bnd rfl (bnd B.ld1 (by rw [this]))
theorem PB.len2 (B : PB H pb mb s1 s2 si lim q) (D : CallF) : strings_Builder_Len k D (some ⟨pb, 0 + 3, none⟩) H = some ((q.2.1.length : Int), H) := by
 simp only [strings_Builder_Len]
 have : s2.len = q.2.1.length := B.A2.row.1
 exact bnd rfl (bnd B.ld2 (by rw [this]))
theorem ccT0 : tabIn 105 0 7 ccTab = true := by decide
theorem ccT3 : tabIn 105 3 7 ccTab = true := by decide
def OwnP (pb mb : Nat) (s1 s2 si : Slc) (y : Nat) : Prop := y = pb ∨ y = mb ∨ ofS s1 y ∨ ofS s2 y ∨ ofS si y
theorem PB.ge (B : PB H pb mb s1 s2 si lim q) {y : Nat} (h : OwnP pb mb s1 s2 si y) : pb ≤ y ∧ y < H.next := by
 have := B.lt; have := B.mlt
 rcases h with h | h | ⟨a, ha, h⟩ | ⟨a, ha, h⟩ | ⟨a, ha, h⟩
 ·omega
 ·omega
 ·have := B.A1.lt a ha; omega
 ·have := B.A2.lt a ha; omega
 ·have := B.A3.lt a ha; omega
theorem PB.other (B : PB H pb mb s1 s2 si lim q) {y : Nat} {c : List Value} {e : TypeId} {r : Bool} {fz : Nat} (g : H.get y = some (.cells c e r fz)) (h1 : e ≠ 105) (h2 : e ≠ 5) (h3 : e ≠ 57) : ¬ OwnP pb mb s1 s2 si y := by
 rintro (h | h | ⟨a, ha, h⟩ | ⟨a, ha, h⟩ | ⟨a, ha, h⟩)
 ·obtain ⟨p1, p2, gg, _⟩ := B.g
  rw [h, gg] at g; cases g; exact h1 rfl
 ·have gg : H.get mb = some (.map _ _) := B.M
  rw [h, gg] at g; cases g
 ·obtain ⟨cc, gg⟩ := acc_cells B.A1 ha
  rw [h, gg] at g; cases g; exact h2 rfl
 ·obtain ⟨cc, gg⟩ := acc_cells B.A2 ha
  rw [h, gg] at g; cases g; exact h2 rfl
 ·obtain ⟨cc, gg⟩ := accW_cells B.A3 ha
  rw [h, gg] at g; cases g; exact h3 rfl
theorem PB.put1 (B : PB H pb mb s1 s2 si lim q) (D : CallF) (x : ByteArray) (hx : 2 * (q.1.length + x.size) ≤ 281474976710656) :
  Gx.Wp (strings_Builder_WriteString k D (some ⟨pb, 0 + 0 + 0, none⟩) x H) fun z => ∃ s', PB z.2 pb mb s' s2 si lim (q.1 ++ bl x, q.2.1, q.2.2.1, q.2.2.2) ∧ Chg (fun y => y = pb ∨ ofS s1 y) H z.2 := by
 obtain ⟨p1, p2, g, h1, h2⟩ := B.g
 have hm := B.mlt
 refine .mono (wstr (o := 0) D g B.lt rfl h1 rfl ccT0 B.A1 (fun a ha e => by have := (B.A1.lt a ha).2; omega) (by have := B.lt; omega) x hx) fun z ⟨s', g', A', c, d, nx⟩ => ?_
 have d' : ∀ a, s'.a = some a → ∀ b, s2.a = some b → a.block ≠ b.block := fun a ha b hb e => by
  rcases d a ha with w | ⟨a0, w1, w2⟩
  ·have := (B.A2.lt b hb).1; omega
  ·exact B.ap a0 b w1 hb (by rw [← w2, e])
 refine ⟨s', ⟨⟨_, p2, g', .inr rfl, h2⟩, A', B.A2.chg c fun a ha w => ?_, B.A3.chg c fun a ha w => ?_, B.M.chg c hm.2 fun w => ?_, by have := B.lt; omega, by omega, fun a b ha hb => d' a ha b hb⟩, c⟩
 ·rcases w with w | ⟨a0, w1, w2⟩
  ·have := (B.A2.lt a ha).2; omega
  ·exact B.ap a0 a w1 ha w2.symm
 ·rcases w with w | w
  ·have := (B.A3.lt a ha).2; omega
  ·exact B.ne13 B.A1 ha w
 ·rcases w with w | w
  ·omega
  ·exact B.neM B.A1 w
theorem PB.put2 (B : PB H pb mb s1 s2 si lim q) (D : CallF) (x : ByteArray) (hx : 2 * (q.2.1.length + x.size) ≤ 281474976710656) :
  Gx.Wp (strings_Builder_WriteString k D (some ⟨pb, 0 + 3, none⟩) x H) fun z => ∃ s', PB z.2 pb mb s1 s' si lim (q.1, q.2.1 ++ bl x, q.2.2.1, q.2.2.2) ∧ Chg (fun y => y = pb ∨ ofS s2 y) H z.2 := by
 obtain ⟨p1, p2, g, h1, h2⟩ := B.g
 have hm := B.mlt
 refine .mono (wstr (o := 3) D g B.lt rfl h2 rfl ccT3 B.A2 (fun a ha e => by have := (B.A2.lt a ha).2; omega) (by have := B.lt; omega) x hx) fun z ⟨s', g', A', c, d, nx⟩ => ?_
 have d' : ∀ a, s'.a = some a → ∀ b, s1.a = some b → a.block ≠ b.block := fun a ha b hb e => by
  rcases d a ha with w | ⟨a0, w1, w2⟩
  ·have := (B.A1.lt b hb).1; omega
  ·exact B.ap b a0 hb w1 (by rw [← w2, e])
 refine ⟨s', ⟨⟨p1, _, g', h1, .inr rfl⟩, B.A1.chg c fun a ha w => ?_, A', B.A3.chg c fun a ha w => ?_, B.M.chg c hm.2 fun w => ?_, by have := B.lt; omega, by omega, fun a b ha hb e => d' b hb a ha e.symm⟩, c⟩
 ·rcases w with w | ⟨a0, w1, w2⟩
  ·have := (B.A1.lt a ha).2; omega
  ·exact B.ap a a0 ha w1 w2
 ·rcases w with w | w
  ·have := (B.A3.lt a ha).2; omega
  ·exact B.ne13 B.A2 ha w
 ·rcases w with w | w
  ·omega
  ·exact B.neM B.A2 w
def magicB : List UInt8 := [71, 82, 84, 80, 1]
def st0P : PSt := (magicB, [], [], [])
theorem empty_spec (D : CallF) {c : List Value} (g : H.get pb = some (.cells c 105 true 0)) (hl : pb < H.next) {v0 v1 v3 v4 v5 v6 : Value} (hc : c = [v0, v1, .int .i64 lim, v3, v4, v5, v6]) :
  Gx.Wp (pack_Builder_empty k D (some ⟨pb, 0, none⟩) H) fun z => ∃ mb s1, PB z.2 pb mb s1 ⟨none, 0, 0⟩ ⟨none, 0, 0⟩ lim st0P ∧ Chg (· = pb) H z.2 := by
 subst hc
 simp only [pack_Builder_empty, strings_Builder_Reset]
 refine .bnd rfl (.call (P := fun z => z.2.get pb = some (.cells [.pointer none, .slice none 0 0, .int .i64 lim, v3, v4, v5, v6] 105 true 0) ∧ Chg (· = pb) H z.2 ∧ z.2.next = H.next) (.bnd rfl (Wp.st g (by simp) rfl fun h1 c1 n1 g1 => .bnd rfl (Wp.st g1 (by simp) rfl fun h2 c2 n2 g2 => .of ⟨g2, c1.trans c2, by show h2.next = _; omega⟩))) fun r1 ⟨g1, c1, n1⟩ => ?_)
 refine .bnd rfl (.call (P := fun z => z.2.get pb = some (.cells [.pointer none, .slice none 0 0, .int .i64 lim, .pointer none, .slice none 0 0, v5, v6] 105 true 0) ∧ Chg (· = pb) r1.2 z.2 ∧ z.2.next = r1.2.next) (.bnd rfl (Wp.st g1 (by simp) rfl fun h1 c1 n1 g1 => .bnd rfl (Wp.st g1 (by simp) rfl fun h2 c2 n2 g2 => .of ⟨g2, c1.trans c2, by show h2.next = _; omega⟩))) fun r4 ⟨g4, c4, n4⟩ => ?_)
 refine Wp.newE fun h5 e5 k5 n5 g5 => .bnd rfl ?_
 have gp5 := k5.got (show pb < r4.2.next by omega) g4
 refine Wp.st gp5 (by simp) rfl fun h7 c7 n7 g7 => .bnd rfl (Wp.st g7 (by simp) rfl fun h9 c9 n9 g9 => .bnd rfl ?_)
 have cz : Chg (· = pb) H h9 := (((c1.trans c4).trans (Chg.keeps k5)).trans c7).trans c9
 have gm : h9.get r4.2.next = some (.map [] 0) := c9.got (by omega) (show r4.2.next ≠ pb by omega) (c7.got (by omega) (show r4.2.next ≠ pb by omega) g5)
 have B : PB h9 pb r4.2.next ⟨none, 0, 0⟩ ⟨none, 0, 0⟩ ⟨none, 0, 0⟩ lim ([], [], [], []) :=
  ⟨⟨_, _, g9, .inl rfl, .inl rfl⟩, Acc.nil _ _ _ _, Acc.nil _ _ _ _, AccW.nil _ _ _ _ _, gm, by omega, by omega, fun a b ha => by cases ha⟩
 obtain ⟨p1, p2, g, h1, h2⟩ := B.g
 refine .call (P := fun z => ∃ s1, PB z.2 pb r4.2.next s1 ⟨none, 0, 0⟩ ⟨none, 0, 0⟩ lim st0P ∧ Chg (· = pb) H z.2) ?_ fun r11 ⟨s1, B', c'⟩ => .of ⟨_, s1, B', c'⟩
 refine .mono (wstr (o := 0) (s := ⟨none, 0, 0⟩) (l := []) D g B.lt rfl h1 rfl ccT0 B.A1 (fun a ha e => by cases ha) (by omega) ⟨#[71, 82, 84, 80, 1]⟩ (by decide)) fun z ⟨s', g', A', c, d, nx⟩ => ?_
 have c' : Chg (· = pb) h9 z.2 := c.wk fun y _ w => w.elim id fun ⟨a, ha, _⟩ => by cases ha
 refine ⟨s', ⟨⟨_, p2, g', .inr rfl, h2⟩, A', Acc.nil _ _ _ _, AccW.nil _ _ _ _ _, B.M.chg c' B.mlt.2 (by have := B.mlt; omega), by omega, by omega, fun a b ha hb => by cases hb⟩, cz.trans c'⟩
theorem new_spec14 (D : CallF) {h : AHeap} {lim : Int} :
  Gx.Wp (pack_New k D lim h) fun z => Keeps h z.2 ∧ if 64 ≤ lim ∧ lim ≤ 65536 then z.1 = (some ⟨h.next, 0, none⟩, 0) ∧ ∃ mb s1, PB z.2 h.next mb s1 ⟨none, 0, 0⟩ ⟨none, 0, 0⟩ lim st0P else z.1 = (none, 1) := by
 simp only [pack_New]
 refine Wp.jn fun j4 h4 => ?_
 have bad : ∀ y, y = true → ¬ (64 ≤ lim ∧ lim ≤ 65536) → Gx.Wp (j4 lim y h) fun z => Keeps h z.2 ∧ if 64 ≤ lim ∧ lim ≤ 65536 then z.1 = (some ⟨h.next, 0, none⟩, 0) ∧ ∃ mb s1, PB z.2 h.next mb s1 ⟨none, 0, 0⟩ ⟨none, 0, 0⟩ lim st0P else z.1 = (none, 1) := fun y hy hn => by
  rw [h4]
  exact .ifp hy (.of ⟨Chg.refl _ _, by rw [if_neg hn]⟩)
 by_cases c1 : lim < 64
 ·exact .ifp (by simpa using c1) (bad true rfl (by omega))
 refine .ifn (by simpa using c1) ?_
 by_cases c2 : lim > 65536
 ·exact bad _ (by simpa using c2) (by omega)
 rw [h4]
 refine .ifn (by simpa using c2) (Wp.newE fun h5 e5 k5 n5 g5 => .call (empty_spec (lim := lim) D g5 (by omega) rfl) fun r6 ⟨mb, s1, B, c⟩ => .of ⟨k5.keepsS c fun y hy => by have hy : y = h.next := hy; omega, ?_⟩)
 rw [if_pos (by omega)]
 exact ⟨rfl, mb, s1, B⟩
end
end Ge
namespace Ge
open Go Gx
def lineP (id : ByteArray) (c n m : Nat) : List UInt8 := bl id ++ (UInt8.ofNat c :: (leb n ++ leb m))
def longP (q : PSt) (blobs more : Nat) : Nat := q.1.length + (leb blobs).length + q.2.1.length + more + 8
def itP (q : PSt) (c : Nat) (t : ByteArray) : It := (idB c (bl t), ⟨#[]⟩, (c : Int), (q.1.length : Int), ((encP c (bl t)).length : Int), (t.size : Int))
def lineA (c : Nat) (t : ByteArray) : List UInt8 := lineP (idB c (bl t)) c (encP c (bl t)).length t.size
def longA (q : PSt) (c : Nat) (t : ByteArray) : Nat := longP q (q.2.2.1.length + 1) ((encP c (bl t)).length + (lineA c t).length)
def tooP (lim : Int) (q : PSt) (c : Nat) (t : ByteArray) : Bool := decide ((lim < (longA q c t : Int) ∧ 0 < q.2.2.1.length) ∨ 65536 < longA q c t ∨ 4096 ≤ q.2.2.1.length)
def addQ (q : PSt) (c : Nat) (t : ByteArray) : PSt := (q.1 ++ encP c (bl t), q.2.1 ++ lineA c t, q.2.2.1 ++ [itP q c t], ptM (idB c (bl t)) t q.2.2.2.length q.2.2.2)
noncomputable def addV (lim : Int) (q : PSt) (c : Nat) (t : ByteArray) : (ByteArray × Int) × PSt :=
 match lkM (idB c (bl t)) q.2.2.2 with
 | some _ => ((⟨#[]⟩, 6), q)
 | none => if tooP lim q c t = true then ((⟨#[]⟩, 2), q) else ((idB c (bl t), 0), addQ q c t)
section
variable {k pb mb : Nat} {H H' : AHeap} {s1 s2 si : Slc} {lim : Int} {q : PSt}
theorem pshort_spec (D : CallF) (hk : 20 ≤ k) (n : Nat) (hn : n < 9223372036854775808) (h : AHeap) : Gx.Wp (pack_short k D (n : Int) h) fun z => z.1 = bA (leb n) ∧ Keeps h z.2 := by
 simp only [pack_short]
 exact .call (short_spec D hk n hn h) fun r ⟨e, k1⟩ => .of ⟨by rw [e], k1⟩
theorem plong_spec (B : PB H pb mb s1 s2 si lim q) (D : CallF) (hk : 20 ≤ k) {n m : Nat} (hn : n ≤ 1000000) (hm : m ≤ 1000000) (h1 : q.1.length ≤ 1000000) (h2 : q.2.1.length ≤ 1000000) :
  Gx.Wp (pack_Builder_long k D (some ⟨pb, 0, none⟩) (n : Int) (m : Int) H) fun z => z.1 = (longP q n m : Int) ∧ Keeps H z.2 := by
 simp only [pack_Builder_long]
 refine .bnd rfl (.bnd (B.len1 D) (.call (pshort_spec D hk n (by omega) H) fun r3 ⟨e3, k3⟩ => .bnd rfl (.bnd ((B.keeps k3).len2 D) (.of ⟨?_, k3⟩))))
 rw [e3]
 have ll : (leb n).length ≤ 4 := leb_len 3 n (by omega)
 show IntKind.wrap .i64 (IntKind.wrap .i64 (IntKind.wrap .i64 (IntKind.wrap .i64 ((q.1.length : Int) + ((leb n).length : Int)) + (q.2.1.length : Int)) + (m : Int)) + 8) = _
 rw [Gx.w64 ((q.1.length : Int) + ((leb n).length : Int)) (by omega), Gx.w64 (((q.1.length : Int) + ((leb n).length : Int)) + (q.2.1.length : Int)) (by omega), Gx.w64 ((((q.1.length : Int) + ((leb n).length : Int)) + (q.2.1.length : Int)) + (m : Int)) (by omega), Gx.w64 _ (by omega)]
 unfold longP; omega
theorem PB.push (B : PB H pb mb s1 s2 si lim q) (x : It) (hl : q.2.2.1.length ≤ 100000) :
  ∃ s' h', appendA 6 64 57 (H.new (.cells (itC x) 57 true 0)) si (itC x) 1 = some (s', h') ∧ ∃ h2, st1 ⟨pb, 0 + 5, none⟩ (.slice s'.a s'.len s'.cap) h' = some h2 ∧ PB h2 pb mb s1 s2 s' lim (q.1, q.2.1, q.2.2.1 ++ [x], q.2.2.2) ∧ Chg (fun y => y = pb ∨ ofS si y) H h2 := by
 have hm := B.mlt
 have hlt := B.lt
 obtain ⟨s', h', a, A', c, d⟩ := B.A3.push itC_len itC_one x (bytes := 64) (by decide) (by omega) (by omega)
 have nx := c.nx
 obtain ⟨p1, p2, g, h1, h2⟩ := B.g
 have no : ∀ y, ofS si y → pb + 1 ≤ y ∧ y < H.next ∧ ∃ cc, H.get y = some (.cells cc 57 true 0) := fun y ⟨b, hb, e⟩ => by
  have := B.A3.lt b hb
  exact ⟨by omega, by omega, by rw [e]; exact accW_cells B.A3 hb⟩
 have g' := c.got hlt (fun w => by have := no _ w; omega) g
 have n1 : ∀ {s : Slc} {l : List UInt8} {z : Addr}, Acc encB 5 (pb + 1) H s l → s.a = some z → ¬ ofS si z.block := fun A hz w => by
  obtain ⟨_, _, cc, gg⟩ := no _ w
  obtain ⟨c1, g1⟩ := acc_cells A hz
  rw [g1] at gg; cases gg
 refine ⟨s', h', a, _, st1_of g' (by simp [pCells]) rfl, ⟨⟨p1, p2, by simp [pCells], h1, h2⟩, (B.A1.chg c fun z hz => n1 B.A1 hz).chg (S := (· = pb)) (Chg.set (.inr rfl)) fun z hz e => by have := (B.A1.lt z hz).2; have e : z.block = pb := e; omega,
  (B.A2.chg c fun z hz => n1 B.A2 hz).chg (S := (· = pb)) (Chg.set (.inr rfl)) fun z hz e => by have := (B.A2.lt z hz).2; have e : z.block = pb := e; omega,
  A'.chg (S := (· = pb)) (Chg.set (.inr rfl)) fun z hz e => by have := (A'.lt z hz).2; have e : z.block = pb := e; omega,
  (B.M.chg c hm.2 fun w => ?_).chg (S := (· = pb)) (Chg.set (.inr rfl)) (by omega) (by omega), by show pb < h'.next; omega, by show pb < mb ∧ mb < h'.next; omega, B.ap⟩, ?_⟩
 ·obtain ⟨_, _, cc, gg⟩ := no _ w
  have g2 : H.get mb = some (.map _ _) := B.M
  rw [gg] at g2; cases g2
 ·exact Chg.trans (c.wk fun y _ w => .inr w) (Chg.set (.inr (.inl rfl)))
theorem PB.upd (B : PB H pb mb s1 s2 si lim q) (id t : ByteArray) : ∃ h', updE H mb (.string id) (.string t) = some h' ∧ PB h' pb mb s1 s2 si lim (q.1, q.2.1, q.2.2.1, ptM id t q.2.2.2.length q.2.2.2) ∧ Chg (· = mb) H h' := by
 have hm := B.mlt
 have hlt := B.lt
 obtain ⟨h', u1, u2, u3, u4⟩ := B.M.upd (n := id) (fun e _ => keyEq_S id e.1) t
 obtain ⟨p1, p2, g, h1, h2⟩ := B.g
 have nM : ∀ {z : Nat} {c : List Value} {e : TypeId}, H.get z = some (.cells c e true 0) → ¬ z = mb := fun g w => by
  have g2 : H.get mb = some (.map _ _) := B.M
  rw [← w, g] at g2; cases g2
 refine ⟨h', u1, ⟨⟨p1, p2, u3.got hlt (by omega) g, h1, h2⟩, B.A1.chg u3 fun z hz => ?_, B.A2.chg u3 fun z hz => ?_, B.A3.chg u3 fun z hz => ?_, u2, by omega, by omega, B.ap⟩, u3⟩
 ·obtain ⟨c, g⟩ := acc_cells B.A1 hz; exact nM g
 ·obtain ⟨c, g⟩ := acc_cells B.A2 hz; exact nM g
 ·obtain ⟨c, g⟩ := accW_cells B.A3 hz; exact nM g
theorem decA5 (a : ByteArray) (b c d e : Int) : decC [.s, .i .i64, .i .i64, .i .i64, .i .i64] [.string a, .int .i64 b, .int .i64 c, .int .i64 d, .int .i64 e] = some (a, b, c, d, e) := rfl
theorem add_spec14 (B : PB H pb mb s1 s2 si lim q) (D : CallF) (kg : KG 0 H) (hk : 1200000 ≤ k) {c : Nat} (hc : c = 1 ∨ c = 2) {t : ByteArray} (ht : t.size ≤ 65536) (hq1 : q.1.length ≤ 65536) (hq2 : q.2.1.length ≤ 65536) (hq3 : q.2.2.1.length ≤ 4096) :
  Gx.Wp (pack_Builder_Add k D (some ⟨pb, 0, none⟩) (c : Int) t H) fun z => z.1 = (addV lim q c t).1 ∧ ∃ s1' s2' si', PB z.2 pb mb s1' s2' si' lim (addV lim q c t).2 ∧ Chg (OwnP pb mb s1 s2 si) H z.2 := by
 simp only [pack_Builder_Add]
 have hn : isK (c : Int) = true := by unfold isK; simp only [decide_eq_true_eq]; omega
 have bt : (bl t).length = t.size := bl_length t
 obtain ⟨el1, el2⟩ := encP_len (c := c) (t := bl t) (by omega)
 refine .call (bencode_spec D hk) fun r1 ⟨q1, k1⟩ => ?_
 rw [encV_yes hn (by omega), Int.toNat_natCast] at q1
 rw [q1]
 refine .ifn (by simp) (.call (bid_spec D (kg.chg k1 fun f => f) (by omega) (by omega) (by omega)) fun r2 ⟨q2, k2⟩ => ?_)
 rw [idV_yes hn, Int.toNat_natCast] at q2
 rw [q2]
 have k12 := k1.trans k2
 have B2 := B.keeps k12
 obtain ⟨s, es⟩ : ∃ s : List UInt8, s = encP c (bl t) := ⟨_, rfl⟩
 have ss : (⟨⟨s⟩⟩ : ByteArray).size = s.length := size_mk _
 rw [← es] at el1 el2
 have lk := B2.M.look (n := idB c (bl t)) (fun e _ => keyEq_S _ e.1) (dec := decS) (dv := fun v : ByteArray => v) (fun v => rfl) (z := .string ⟨#[]⟩) (z0 := ⟨#[]⟩) rfl
 refine .bnd rfl (.bnd B2.ldm (.bnd lk ?_))
 unfold addV
 cases hl : lkM (idB c (bl t)) q.2.2.2 with
 | some v =>
  refine .ifp rfl (.of ⟨rfl, s1, s2, si, B2, Chg.keeps k12⟩)
 | none =>
  refine .ifn (by decide) ?_
  dsimp only
  rw [← es]
  obtain ⟨h6, e6⟩ : ∃ h6, h6 = AHeap.resv r2.2 1 := ⟨_, rfl⟩
  have k6 : Keeps r2.2 h6 := ⟨by rw [e6]; show r2.2.next ≤ r2.2.next + 1; omega, fun b hb _ => by rw [e6]; rfl⟩
  rw [← e6]
  refine .call (pshort_spec D (by omega) s.length (by omega) h6) fun r7 ⟨q7, k7⟩ => .call (pshort_spec D (by omega) t.size (by omega) r7.2) fun r8 ⟨q8, k8⟩ => ?_
  rw [wrapK hn, Int.toNat_natCast, q7, q8]
  have k28 : Keeps r2.2 r8.2 := (k6.trans k7).trans k8
  obtain ⟨h9, e9⟩ : ∃ h9, h9 = AHeap.set r8.2 (r2.2.next + 0) (.cells [encB (UInt8.ofNat c)] 5 true 0) := ⟨_, rfl⟩
  have g9 : h9.get (r2.2.next + 0) = some (.cells [encB (UInt8.ofNat c)] 5 true 0) := by rw [e9]; simp
  have k9 : Keeps r2.2 h9 := by rw [e9]; exact Keeps.set k28 (by omega)
  rw [← e9]
  have ob : bytesOf h9 ⟨some ⟨r2.2.next + 0, 0, some 0⟩, 1, 1⟩ = some ⟨⟨[UInt8.ofNat c]⟩⟩ := bytesOf_out (l := [UInt8.ofNat c]) g9
  have l7 : (leb s.length).length ≤ 4 := leb_len 3 s.length (by omega)
  have l8 : (leb t.size).length ≤ 4 := leb_len 3 t.size (by omega)
  have ln : ((idB c (bl t) ++ (⟨⟨[UInt8.ofNat c]⟩⟩ : ByteArray)) ++ bA (leb s.length)) ++ bA (leb t.size) = ⟨⟨lineA c t⟩⟩ := by
   apply bl_inj
   rw [bl_mk]
   unfold lineA lineP
   rw [← es]
   simp [bl, bA]
  have lls : (lineA c t).length = 33 + (leb s.length).length + (leb t.size).length := by
   unfold lineA lineP
   rw [← es]
   simp only [List.length_append, List.length_cons]
   have : (bl (idB c (bl t))).length = 32 := rfl
   omega
  refine .bnd ob (.gp ⟨_, g9, fun H0 hH => bnd (show bytesOf H0 ⟨some ⟨r2.2.next + 0, 0, some 0⟩, 1, 1⟩ = some ⟨⟨[UInt8.ofNat c]⟩⟩ from bytesOf_out (l := [UInt8.ofNat c]) hH) rfl⟩ ?_)
  have i32 : (idB c (bl t)).size = 32 := rfl
  refine .ifp (show 32 + 1 ≤ _ by omega) (.ifp (show ((idB c (bl t) ++ (⟨⟨[UInt8.ofNat c]⟩⟩ : ByteArray)).size + (bA (leb s.length)).size ≤ _) by rw [ByteArray.size_append]; show 32 + 1 + (leb s.length).length ≤ _; omega)
   (.ifp (show (((idB c (bl t) ++ (⟨⟨[UInt8.ofNat c]⟩⟩ : ByteArray)) ++ bA (leb s.length)).size + (bA (leb t.size)).size ≤ _) by rw [ByteArray.size_append, ByteArray.size_append]; show 32 + 1 + (leb s.length).length + (leb t.size).length ≤ _; omega) ?_))
  rw [ln]
  have B9 := B2.keeps k9
  have kz := k12.trans k9
  refine .bnd rfl (.bnd B9.ld3 ?_)
  have sil : si.len = q.2.2.1.length := (B9.A3.row itC_len).len
  rw [sil, Gx.w1 (by omega), show (⟨⟨lineA c t⟩⟩ : ByteArray).size = (lineA c t).length from size_mk _, ss, show IntKind.wrap .i64 ((s.length : Int) + ((lineA c t).length : Int)) = ((s.length + (lineA c t).length : Nat) : Int) by rw [Gx.w64 _ (by omega)]; omega]
  refine .call (plong_spec B9 D (by omega) (by omega) (by omega) (by omega) (by omega)) fun r16 ⟨q16, k16⟩ => Wp.jn fun j25 h25 => ?_
  have eL : longP q (q.2.2.1.length + 1) (s.length + (lineA c t).length) = longA q c t := by unfold longA; rw [← es]
  rw [eL] at q16
  rw [q16]
  have B16 := B9.keeps k16
  have kH16 := kz.trans k16
  have J : ∀ y, y = tooP lim q c t → Gx.Wp (j25 (some ⟨pb, 0, none⟩) (c : Int) t (idB c (bl t)) ⟨⟨s⟩⟩ ⟨⟨lineA c t⟩⟩ y r16.2) fun z => z.1 = (if tooP lim q c t = true then (((⟨#[]⟩ : ByteArray), (2 : Int)), q) else ((idB c (bl t), 0), addQ q c t)).1 ∧ ∃ s1' s2' si', PB z.2 pb mb s1' s2' si' lim (if tooP lim q c t = true then (((⟨#[]⟩ : ByteArray), (2 : Int)), q) else ((idB c (bl t), 0), addQ q c t)).2 ∧ Chg (OwnP pb mb s1 s2 si) H z.2 := fun y hy => by
   rw [h25]
   cases hT : tooP lim q c t with
   | true => exact .ifp (hy.trans hT) (.of ⟨rfl, s1, s2, si, B16, Chg.keeps kH16⟩)
   | false =>
    have hbig : longA q c t ≤ 65536 ∧ q.2.2.1.length < 4096 := by
     unfold tooP at hT
     simp only [decide_eq_false_iff_not] at hT
     omega
    have hlong : q.1.length + q.2.1.length + s.length + (lineA c t).length ≤ 65536 := by
     have := hbig.1
     unfold longA longP at this
     rw [← es] at this
     omega
    refine .ifn (by rw [hy, hT]; decide) (.bnd rfl (.bnd (B16.len1 D) (Wp.newE fun h28 e28 k28' n28 g28 => Wp.stL g28 rfl rfl rfl (by decide) fun h29 c29 n29 g29 => ?_)))
    have k29 : Keeps r16.2 h29 := k28'.keepsS c29 fun y hy => by have hy : y = r16.2.next := hy; omega
    have B29 := B16.keeps k29
    refine .bnd (sldA_at g29 rfl) (.bnd (decA5 _ _ _ _ _) (Wp.newE fun h32 e32 k32 n32 g32 => ?_))
    obtain ⟨x, ex⟩ : ∃ x : It, x = itP q c t := ⟨_, rfl⟩
    have exc : itC x = [.string (idB c (bl t)), .string ⟨#[]⟩, .int .i64 (c : Int), .int .i64 (q.1.length : Int), .int .i64 (s.length : Int), .int .i64 (t.size : Int)] := by rw [ex, es]; rfl
    have e32' : h32 = h29.new (.cells (itC x) 57 true 0) := by rw [e32, exc]; rfl
    have B32 := B29.keeps k32
    refine .bnd rfl (.bnd B32.ld3 (.gp (ssw1 (by dsimp only; rw [B29.ld3]; rfl)) ?_))
    obtain ⟨s', h', a, h2, b, B2', c2'⟩ := B29.push x (by omega)
    rw [← e32'] at a
    have er : Gx.rdS 6 ⟨some ⟨h29.next, 0, some 0⟩, 1, 1⟩ h32 = some (itC x) := by rw [e32']; exact rdS_oneW itC_len x 57
    refine .bnd er (.bnd a (.bnd rfl (.bnd b (.bnd rfl (.bnd B2'.ldm (.bnd rfl ?_))))))
    obtain ⟨h43, u, B43, c43⟩ := B2'.upd (idB c (bl t)) t
    refine .bnd u (.bnd rfl (.call (B43.put1 D ⟨⟨s⟩⟩ (by rw [ss]; show 2 * (q.1.length + s.length) ≤ _; omega)) fun r46 ⟨s1', B46, c46⟩ => .bnd rfl (.call (B46.put2 D ⟨⟨lineA c t⟩⟩ (by rw [size_mk]; show 2 * (q.2.1.length + (lineA c t).length) ≤ _; omega)) fun r48 ⟨s2', B48, c48⟩ => .of ⟨rfl, s1', s2', s', ?_, ?_⟩)))
    ·rw [bl_mk, bl_mk] at B48
     have : (addQ q c t) = (q.1 ++ s, q.2.1 ++ lineA c t, q.2.2.1 ++ [x], ptM (idB c (bl t)) t q.2.2.2.length q.2.2.2) := by unfold addQ; rw [ex, es]
     rw [if_neg (by decide), this]
     exact B48
    ·exact ((((Chg.keeps (kH16.trans k29)).trans (c2'.wk fun y _ w => w.elim .inl fun w => .inr (.inr (.inr (.inr w))))).trans (c43.wk fun y _ w => .inr (.inl w))).trans (c46.wk fun y _ w => w.elim .inl fun w => .inr (.inr (.inl w)))).trans (c48.wk fun y _ w => w.elim .inl fun w => .inr (.inr (.inr (.inl w))))
  have eT : tooP lim q c t = decide ((lim < (longA q c t : Int) ∧ 0 < q.2.2.1.length) ∨ 65536 < longA q c t ∨ 4096 ≤ q.2.2.1.length) := rfl
  refine .bnd rfl (.bnd B16.ldl ?_)
  by_cases c1 : (longA q c t : Int) > lim
  ·refine .ifp (by simpa using c1) (.bnd rfl (.bnd B16.ld3 ?_))
   rw [sil]
   by_cases c2 : 0 < q.2.2.1.length
   ·exact .ifp (decide_eq_true (show ((q.2.2.1.length : Int) > 0) by omega)) (J _ (by rw [eT, decide_eq_true (.inl ⟨c1, c2⟩)]))
   ·refine .ifn (fun w => by have w : ((q.2.2.1.length : Int) > 0) := of_decide_eq_true w; omega) ?_
    by_cases c3 : 65536 < longA q c t
    ·exact .ifp (by simp; omega) (J _ (by rw [eT, decide_eq_true (.inr (.inl c3))]))
    ·refine .ifn (by simp; omega) (.bnd rfl (.bnd B16.ld3 (J _ ?_)))
     rw [eT, sil]
     apply decide_eq_decide.2
     omega
  ·refine .ifn (by simpa using c1) ?_
   by_cases c3 : 65536 < longA q c t
   ·exact .ifp (by simp; omega) (J _ (by rw [eT, decide_eq_true (.inr (.inl c3))]))
   ·refine .ifn (by simp; omega) (.bnd rfl (.bnd B16.ld3 (J _ ?_)))
    rw [eT, sil]
    apply decide_eq_decide.2
    omega
end
end Ge
