import Derived.Sort.Walk0
import Derived.Test.YtgnljbdobbahkaaDoorFn1
namespace Ge
open Go Gx
theorem beq_ba (a b : ByteArray) : (a == b) = decide (a = b) := by
 have e : (a == b) = (a.data == b.data) := rfl
 rw [e]
 by_cases h : a = b
 ·subst h; simp
 ·have : ¬ a.data = b.data := fun e => h (by cases a; cases b; simp at e; rw [e])
  simp [h, this]
abbrev It := ByteArray × ByteArray × Int × Int × Int × Int
def itC (x : It) : List Value := [.string x.1, .string x.2.1, .int .i64 x.2.2.1, .int .i64 x.2.2.2.1, .int .i64 x.2.2.2.2.1, .int .i64 x.2.2.2.2.2]
theorem itC_len (x : It) : (itC x).length = 6 := rfl
theorem itC_one (x : It) : allOne (itC x) = true := rfl
def cmpB (a b : ByteArray) : Int := if bl a < bl b then -1 else if a = b then 0 else 1
def cmpI (a b : Int) : Int := if a < b then -1 else if a = b then 0 else 1
def orL : List Int → Int
 | [] => 0
 | c :: l => if c ≠ 0 then c else orL l
def ordL (x y : It) : List Int := [cmpB x.1 y.1, cmpB x.2.1 y.2.1, cmpI x.2.2.2.1 y.2.2.2.1, cmpI x.2.2.2.2.1 y.2.2.2.2.1, cmpI x.2.2.2.2.2 y.2.2.2.2.2, cmpI x.2.2.1 y.2.2.1]
def ord (x y : It) : Int := orL (ordL x y)
section
variable (k : Nat) (D : CallF)
end
end Ge
namespace Ge
open Go Gx
def okI (x : It) : Prop := x.1.size = 32 ∧ x.2.1.size = 32 ∧ (x.2.2.1 = 1 ∨ x.2.2.1 = 2) ∧ (0 ≤ x.2.2.2.1 ∧ x.2.2.2.1 ≤ 65536) ∧ (1 ≤ x.2.2.2.2.1 ∧ x.2.2.2.2.1 ≤ 65536) ∧ (0 ≤ x.2.2.2.2.2 ∧ x.2.2.2.2.2 ≤ 65536)
instance (x : It) : Decidable (okI x) := by unfold okI; exact inferInstance
section
variable (k : Nat) (D : CallF)
end
end Ge
namespace Ge
open Go Gx
section
variable {k : Nat} {h : AHeap} {s : Slc} {xs : List It}
end
end Ge
namespace Ge
open Go Gx
structure SlotB (base : Nat) (h : AHeap) (tb b : Nat) (sp : Option Nat) (cap : Nat) (R : List Value) (s : Slc) (xs : List It) : Prop where
 s : s = ⟨some ⟨b, 0, sp⟩, xs.length, cap⟩
 blk : h.get b = some (.cells (xs.flatMap itC ++ R) 57 true 0)
 one : allOne R = true
 ge : base ≤ b
 lt : b < h.next
 ne : b ≠ tb
 le : xs.length ≤ cap
 room : cap * 6 ≤ xs.length * 6 + R.length
 sp : (sp = some 7 ∧ cap ≠ 0) ∨ (sp = some 0 ∧ cap = 0)
def SlotR (base : Nat) (h : AHeap) (tb : Nat) (s : Slc) (xs : List It) : Prop := (s = ⟨none, 0, 0⟩ ∧ xs = []) ∨ ∃ b sp cap R, SlotB base h tb b sp cap R s xs
section
variable {base tb : Nat} {h h' : AHeap} {s : Slc} {xs : List It}
theorem SlotR.chg {S : Nat → Prop} (A : SlotR base h tb s xs) (c : Chg S h h') (hs : ∀ a, s.a = some a → ¬ S a.block) : SlotR base h' tb s xs := by
 rcases A with A | ⟨b, sp, cap, R, A⟩
 ·exact .inl A
 ·exact .inr ⟨b, sp, cap, R, A.s, (c.oth b A.lt (hs ⟨b, 0, sp⟩ (by rw [A.s]))).trans A.blk, A.one, A.ge, Nat.lt_of_lt_of_le A.lt c.nx, A.ne, A.le, A.room, A.sp⟩
theorem SlotR.keeps (A : SlotR base h tb s xs) (c : Keeps h h') : SlotR base h' tb s xs := A.chg c fun _ _ f => f
theorem SlotR.len (A : SlotR base h tb s xs) : s.len = xs.length := by
 rcases A with ⟨rfl, rfl⟩ | ⟨b, sp, cap, R, A⟩
 ·rfl
 ·rw [A.s]
theorem flat_get {ys : List It} {R : List Value} {i : Nat} {x : It} (hx : ys[i]? = some x) (j : Nat) (v : Value) (hv : (itC x)[j]? = some v) : (ys.flatMap itC ++ R)[i * 6 + j]? = some v := by
 have := flatW_get itC_len hx j v hv
 rw [List.getElem?_append_left (List.getElem?_eq_some_iff.1 this).1]; exact this
theorem SlotR.row (A : SlotR base h tb s xs) : RowW 6 itC h s xs := by
 rcases A with ⟨rfl, rfl⟩ | ⟨b, sp, cap, R, A⟩
 ·exact RowW.nil _ _ _ _ _
 ·rw [A.s]
  exact ⟨rfl, fun i x hx => ⟨_, _, _, _, _, rfl, A.lt, A.blk, fun j v hv => by rw [Nat.zero_add]; exact flat_get hx j v hv⟩⟩
theorem SlotR.own (A : SlotR base h tb s xs) : ∀ a, s.a = some a → base ≤ a.block ∧ a.block < h.next ∧ a.block ≠ tb := by
 rcases A with ⟨rfl, rfl⟩ | ⟨b, sp, cap, R, A⟩
 ·intro a ha; cases ha
 ·intro a ha; rw [A.s] at ha; cases ha; exact ⟨A.ge, A.lt, A.ne⟩
end
end Ge
namespace Ge
open Go Gx
def Lx {α β : Type} (lt : α → α → Prop) (R : β → β → Prop) (x y : α × β) : Prop := lt x.1 y.1 ∨ x.1 = y.1 ∧ R x.2 y.2
theorem Lx.trans {α β : Type} {lt : α → α → Prop} {R : β → β → Prop} (h1 : ∀ a b c, lt a b → lt b c → lt a c) (h2 : ∀ a b c, R a b → R b c → R a c) : ∀ x y z : α × β, Lx lt R x y → Lx lt R y z → Lx lt R x z := by
 rintro ⟨a, b⟩ ⟨c, d⟩ ⟨e, f⟩ (p | ⟨p, p'⟩) (q | ⟨q, q'⟩)
 ·exact .inl (h1 _ _ _ p q)
 ·simp only at q p; subst q; exact .inl p
 ·simp only at q p; subst p; exact .inl q
 ·simp only at q p; subst p; subst q; exact .inr ⟨rfl, h2 _ _ _ p' q'⟩
def ltB (a b : ByteArray) : Prop := bl a < bl b
end Ge
namespace Ge
open Go Gx
def idx (id : ByteArray) : Nat := match bl id with
 | [] => 0
 | b :: _ => b.toNat
def tabC (sl : Nat → Slc) : List Value := (List.range 256).map fun i => .slice (sl i).a (sl i).len (sl i).cap
def upd {α : Type} (f : Nat → α) (i : Nat) (x : α) : Nat → α := fun j => if j = i then x else f j
def TOwn (tb : Nat) (sl : Nat → Slc) (y : Nat) : Prop := y = tb ∨ ∃ i, i < 256 ∧ ∃ a, (sl i).a = some a ∧ a.block = y
structure Tab (base : Nat) (h : AHeap) (tb : Nat) (sl : Nat → Slc) (F : Nat → List It) : Prop where
 blk : h.get tb = some (.cells (tabC sl) 125 true 0)
 lt : tb < h.next
 ge : base ≤ tb
 slot : ∀ i, i < 256 → SlotR base h tb (sl i) (F i)
 apart : ∀ i j a b, i < 256 → j < 256 → i ≠ j → (sl i).a = some a → (sl j).a = some b → a.block ≠ b.block
section
variable {base tb : Nat} {h h' : AHeap} {sl : Nat → Slc} {F : Nat → List It}
theorem Tab.own (T : Tab base h tb sl F) {y : Nat} (hy : TOwn tb sl y) : base ≤ y ∧ y < h.next := by
 rcases hy with rfl | ⟨i, hi, a, ha, rfl⟩
 ·exact ⟨T.ge, T.lt⟩
 ·have := (T.slot i hi).own a ha; exact ⟨this.1, this.2.1⟩
theorem Tab.chg {S : Nat → Prop} (T : Tab base h tb sl F) (c : Chg S h h') (hs : ∀ y, TOwn tb sl y → ¬ S y) : Tab base h' tb sl F :=
 ⟨(c.oth tb T.lt (hs tb (.inl rfl))).trans T.blk, Nat.lt_of_lt_of_le T.lt c.nx, T.ge, fun i hi => (T.slot i hi).chg c fun a ha => hs _ (.inr ⟨i, hi, a, ha, rfl⟩), T.apart⟩
theorem Tab.keeps (T : Tab base h tb sl F) (c : Keeps h h') : Tab base h' tb sl F := T.chg c fun _ _ f => f
end
section
variable {k base tb : Nat} {h : AHeap} {sl : Nat → Slc} {F : Nat → List It} {s : Slc} {xs : List It}
end
end Ge
namespace Ge
open Go Gx
section
variable {k base tb : Nat} {h : AHeap} {sl : Nat → Slc} {F : Nat → List It} {s : Slc} {xs : List It}
end
end Ge
namespace Ge
open Go Gx
section
variable {k base tb : Nat} {h : AHeap} {s : Slc} {xs : List It} {pb : Nat} {p : ByteArray}
end
end Ge
namespace Ge
open Go Gx
section
variable {k base tb : Nat} {h : AHeap} {sl : Nat → Slc} {F : Nat → List It}
end
end Ge
namespace Ge
open Go Gx
def Tru {R : Type} (x : Option (R × AHeap)) (v : R) : Prop := ∃ h', x = some (v, h')
theorem Tru.wp {R : Type} {v : R} {x : Option (R × AHeap)} (h : Gx.Wp x fun q => q.1 = v) : Tru x v := by
 obtain ⟨⟨a, b⟩, e, q⟩ := h
 simp only at q
 subst q
 exact ⟨b, e⟩
section
variable {k : Nat}
end
end Ge
namespace Ge
open Go Gx
variable {H : Type} {enc : TypeId × Value → H}
end Ge
namespace Ge
open Go Gx
def leb (n : Nat) : List UInt8 := if n < 128 then [UInt8.ofNat n] else UInt8.ofNat (n % 128 + 128) :: leb (n / 128)
termination_by n
decreasing_by omega
theorem leb_lt {n : Nat} (h : n < 128) : leb n = [UInt8.ofNat n] := by rw [leb]; rw [if_pos h]
theorem leb_ge {n : Nat} (h : ¬ n < 128) : leb n = UInt8.ofNat (n % 128 + 128) :: leb (n / 128) := by rw [leb]; rw [if_neg h]
theorem leb_pos (n : Nat) : 0 < (leb n).length := by
 by_cases h : n < 128
 ·rw [leb_lt h]; simp
 ·rw [leb_ge h]; simp
theorem leb_len : ∀ (d n : Nat), n < 128 ^ (d + 1) → (leb n).length ≤ d + 1
 | 0, n, h => by rw [leb_lt (by omega)]; simp
 | d + 1, n, h => by
  by_cases c : n < 128
  ·rw [leb_lt c]; simp
  ·rw [leb_ge c, List.length_cons]
   have : n / 128 < 128 ^ (d + 1) := (Nat.div_lt_iff_lt_mul (by decide)).2 (by rw [Nat.pow_succ] at h; exact h)
   have := leb_len d (n / 128) this
   omega
def bA (l : List UInt8) : ByteArray := ⟨⟨l⟩⟩
theorem bA_size (l : List UInt8) : (bA l).size = l.length := rfl
theorem or128 : ∀ a : Fin 256, Go.bits .or .u8 (a.val : Int) 128 = ((a.val % 128 + 128 : Nat) : Int) := by decide +kernel
section
variable {k : Nat}
theorem encB_of (m : Nat) (h : m < 256) : Value.int .u8 (m : Int) = encB (UInt8.ofNat m) := by
 unfold encB
 congr 1
 have : (UInt8.ofNat m).toNat = m := by simp [UInt8.toNat_ofNat']; omega
 omega
theorem bytes_row {h : AHeap} {s : Slc} {l : List UInt8} (R : Row encB h s l) : bytesOf h s = some (bA l) := by
 have := R.rdS
 unfold Gx.rdS at this
 unfold bytesOf
 cases e : s.a with
 | none =>
  rw [e] at this
  have e2 : l.map encB = [] := by
   cases hl : l.map encB with
   | nil => rfl
   | cons x y => rw [hl] at this; cases this
  have : l = [] := by simpa using e2
  rw [this]; rfl
 | some a =>
  rw [e] at this
  simp only [Nat.mul_one] at this
  show (h.rdL a.block a.off s.len).bind _ = _
  rw [this]
  show (unbytes (l.map encB)).bind _ = _
  rw [unbytes_map]; rfl
theorem short_spec (D : CallF) (hk : 20 ≤ k) (n : Nat) (hn : n < 9223372036854775808) (h : AHeap) : Gx.Wp (num_Short k D (n : Int) h) fun z => z.1 = (bA (leb n), 0) ∧ Keeps h z.2 := by
 simp only [num_Short]
 refine .ifn (by simp) (Gx.Wp.jn fun j4 h4 => ?_)
 unfold num_Short_l0
 obtain ⟨bot, eb⟩ := iterK_of (fun _ _ _ => none) (num_Short_l0b k D j4) (show 9 + 1 ≤ k by omega)
 rw [eb]
 have loop : ∀ (d m : Nat) (l : List UInt8) (o : Slc) (H : AHeap), m < 128 ^ (d + 1) → m < 9223372036854775808 → l.length + d ≤ 20 → l ++ leb m = leb n → Keeps h H → Acc encB 5 h.next H o l → Gx.Wp (iterK bot (d + 1) (num_Short_l0b k D j4) (m : Int) o H) fun z => z.1 = (bA (leb n), 0) ∧ Keeps h z.2 := fun d => by
  induction d with
  | zero =>
   intro m l o H hm hm2 hl hlm kp A
   rw [iterK_s]; simp only [num_Short_l0b]
   have hm' : m < 128 := by simpa using hm
   refine .ifn (by simp; omega) ?_
   rw [h4]
   refine Wp.newE fun H1 e1 k1 n1 g1 => ?_
   rw [Gx.w8 _ (by omega), encB_of m (by omega)] at e1
   obtain ⟨s', h9, a1, a2, A', c9, d9⟩ := Acc.pushK A (fun _ => rfl) (UInt8.ofNat m) (bytes := 1) e1 (by omega) (by decide) kp.nx
   refine .bnd a1 (.bnd a2 (.bnd (bytes_row A'.row) (.of ⟨?_, kp.keepsS c9 fun y ⟨a, ha, e⟩ => by rw [e]; exact (A.lt a ha).2⟩)))
   rw [← hlm, leb_lt hm']
  | succ d ih =>
   intro m l o H hm hm2 hl hlm kp A
   rw [iterK_s]; simp only [num_Short_l0b]
   by_cases c : m < 128
   ·refine .ifn (by simp; omega) ?_
    rw [h4]
    refine Wp.newE fun H1 e1 k1 n1 g1 => ?_
    rw [Gx.w8 _ (by omega), encB_of m (by omega)] at e1
    obtain ⟨s', h9, a1, a2, A', c9, d9⟩ := Acc.pushK A (fun _ => rfl) (UInt8.ofNat m) (bytes := 1) e1 (by omega) (by decide) kp.nx
    refine .bnd a1 (.bnd a2 (.bnd (bytes_row A'.row) (.of ⟨?_, kp.keepsS c9 fun y ⟨a, ha, e⟩ => by rw [e]; exact (A.lt a ha).2⟩)))
    rw [← hlm, leb_lt c]
   ·refine .ifp (by simp; omega) (Wp.newE fun H1 e1 k1 n1 g1 => ?_)
    have ew : IntKind.wrap .u8 (m : Int) = ((m % 256 : Nat) : Int) := by rw [Go.IntKind.wrap_u8]; omega
    have eo : Go.bits .or .u8 (IntKind.wrap .u8 (m : Int)) 128 = ((m % 128 + 128 : Nat) : Int) := by
     rw [ew, or128 ⟨m % 256, by omega⟩]
     congr 2
     show m % 256 % 128 = m % 128
     omega
    rw [eo, encB_of _ (by omega)] at e1
    obtain ⟨s', h9, a1, a2, A', c9, d9⟩ := Acc.pushK A (fun _ => rfl) (UInt8.ofNat (m % 128 + 128)) (bytes := 1) e1 (by omega) (by decide) kp.nx
    refine .bnd a1 (.bnd a2 ?_)
    have ef : Int.fdiv (m : Int) 128 = ((m / 128 : Nat) : Int) := by rw [Int.fdiv_eq_ediv_of_nonneg _ (by decide)]; omega
    rw [ef]
    refine ih (m / 128) (l ++ [UInt8.ofNat (m % 128 + 128)]) s' h9 ((Nat.div_lt_iff_lt_mul (by decide)).2 (by rw [Nat.pow_succ] at hm; exact hm)) (by omega) (by rw [List.length_append, List.length_singleton]; omega) ?_ (kp.keepsS c9 fun y ⟨a, ha, e⟩ => by rw [e]; exact (A.lt a ha).2) A'
    rw [← hlm, leb_ge c]; simp
 exact loop 9 n [] ⟨none, 0, 0⟩ h (Nat.lt_of_lt_of_le hn (by decide)) hn (by simp) (by simp) (.refl _ _) (Acc.nil _ _ _ _)
end
end Ge
namespace Ge
open Go Gx
structure BuS (base : Nat) (H : AHeap) (bb : Nat) (s : Slc) (l : List UInt8) : Prop where
 blk : ∃ pv, H.get bb = some (.cells [pv, .slice s.a s.len s.cap] 100 true 0) ∧ (pv = .pointer none ∨ pv = .pointer (some ⟨bb, 0, none⟩))
 acc : Acc encB 5 base H s l
 lt : bb < H.next
 ge : base ≤ bb
 ne : ∀ a, s.a = some a → a.block ≠ bb
def BOwn (bb : Nat) (s : Slc) (y : Nat) : Prop := y = bb ∨ ofS s y
section
variable {k base bb : Nat} {h H H' : AHeap} {s : Slc} {l : List UInt8}
theorem BuS.own (B : BuS base H bb s l) {y : Nat} (hy : BOwn bb s y) : base ≤ y ∧ y < H.next := by
 rcases hy with rfl | ⟨a, ha, rfl⟩
 ·exact ⟨B.ge, B.lt⟩
 ·exact ⟨(B.acc.lt a ha).2, (B.acc.lt a ha).1⟩
theorem BuS.chg {S : Nat → Prop} (B : BuS base H bb s l) (c : Chg S H H') (hs : ∀ y, BOwn bb s y → ¬ S y) : BuS base H' bb s l :=
 ⟨by
  obtain ⟨pv, g, e⟩ := B.blk
  exact ⟨pv, (c.oth bb B.lt (hs bb (.inl rfl))).trans g, e⟩, B.acc.chg c fun a ha => hs _ (.inr ⟨a, ha, rfl⟩), Nat.lt_of_lt_of_le B.lt c.nx, B.ge, B.ne⟩
theorem BuS.keeps (B : BuS base H bb s l) (c : Keeps H H') : BuS base H' bb s l := B.chg c fun _ _ f => f
theorem BuS.new (H : AHeap) (g : H'.get H.next = some (.cells [.pointer none, .slice none 0 0] 100 true 0)) (n : H'.next = H.next + 1) : BuS H.next H' H.next ⟨none, 0, 0⟩ [] :=
 ⟨⟨_, g, .inl rfl⟩, Acc.nil _ _ _ _, by omega, Nat.le_refl _, fun a ha => by cases ha⟩
theorem write_spec (D : CallF) (B : BuS base H bb s l) (x : ByteArray) (hx : 2 * (l.length + x.size) ≤ 281474976710656) :
  Gx.Wp (strings_Builder_WriteString k D (some ⟨bb, 0, none⟩) x H) fun z => ∃ s', BuS base z.2 bb s' (l ++ bl x) ∧ Chg (BOwn bb s) H z.2 ∧ ∀ y, BOwn bb s' y → H.next ≤ y ∨ BOwn bb s y := by
 simp only [strings_Builder_WriteString]
 obtain ⟨pv, g, hpv⟩ := B.blk
 have hlt := B.lt
 have hge := B.ge
 obtain ⟨H1, e1, g1, c1⟩ : ∃ H1, ccA ccTab ⟨bb, 0, none⟩ H = some H1 ∧ H1.get bb = some (.cells [.pointer (some ⟨bb, 0, none⟩), .slice s.a s.len s.cap] 100 true 0) ∧ Chg (· = bb) H H1 := by
  have ht : tabIn 100 0 2 ccTab = true := by decide
  rcases hpv with rfl | rfl
  ·refine ⟨_, ?_, sset_get _ _ _, Chg.set (.inr rfl)⟩
   ·unfold ccA
    simp only [g]
    rw [if_pos ⟨by simpa using ht, trivial⟩]
    show st1 ⟨bb, 0, none⟩ _ H = _
    rw [st1_of g (by simp) rfl]; rfl
  ·refine ⟨H, ?_, g, .refl _ _⟩
   ·unfold ccA
    simp only [g]
    rw [if_pos ⟨by simpa using ht, trivial⟩]
    simp
 have nx1 := c1.nx
 have A1 : Acc encB 5 base H1 s l := B.acc.chg c1 fun a ha e => B.ne a ha e
 obtain ⟨s', h5, a5, A5, c5, d5⟩ : ∃ s' h5, appendA 1 1 5 H1 s (bytesL x) x.size = some (s', h5) ∧ Acc encB 5 base h5 s' (l ++ bl x) ∧ Chg (ofS s) H1 h5 ∧ ∀ a, s'.a = some a → H1.next ≤ a.block ∨ ofS s a.block := by
  by_cases c : bl x = []
  ·have hx0 : x = ⟨#[]⟩ := bl_inj (by rw [c]; rfl)
   subst hx0
   refine ⟨s, H1, ?_, by rw [c, List.append_nil]; exact A1, .refl _ _, fun a ha => .inr ⟨a, ha, rfl⟩⟩
   rcases A1.st with ⟨rfl, _⟩ | ⟨b, gg⟩
   ·rfl
   ·rw [gg.s]
    show appendA 1 1 5 H1 _ [] 0 = _
    simp [appendA]
  ·obtain ⟨s', h5, p1, p2, p3, p4⟩ := A1.app (fun _ => rfl) (bl x) (bytes := 1) (by have : (bl x).length = x.size := rfl; omega) (by decide) (by omega)
   exact ⟨s', h5, p1, p2, p3, fun a ha => (p4 a ha).imp id fun q => ⟨a, q, rfl⟩⟩
 have n5 := c5.nx
 have g5 : h5.get bb = some (.cells [.pointer (some ⟨bb, 0, none⟩), .slice s.a s.len s.cap] 100 true 0) := c5.got (by omega) (fun ⟨a, ha, e⟩ => B.ne a ha e.symm) g1
 refine .bnd rfl (.bnd e1 (.bnd rfl (.bnd (sldL_at (o := 0 + 1) g1 rfl) (.bnd a5 (.bnd rfl (.bnd (st1_of g5 (by simp) rfl) (.of ?_)))))))
 have d5' : ∀ a, s'.a = some a → a.block ≠ bb := fun a ha e => by
  rcases d5 a ha with q | ⟨b, hb, q⟩
  ·omega
  ·exact B.ne b hb (q ▸ e)
 refine ⟨s', ⟨⟨_, sset_get _ _ _, .inr rfl⟩, A5.chg (S := (· = bb)) (Chg.set (.inr rfl)) fun a ha e => d5' a ha e, by simp; omega, hge, d5'⟩, ?_, ?_⟩
 ·refine Chg.beh (T := (· = bb)) (Chg.beh (T := ofS s) (c1.wk fun y _ e => .inl e) c5 fun y _ e => .inr e) (Chg.set (.inr rfl)) fun y _ e => .inl e
 ·rintro y (rfl | ⟨a, ha, rfl⟩)
  ·exact .inr (.inl rfl)
  ·rcases d5 a ha with q | q
   ·left; omega
   ·exact .inr (.inr q)
theorem unbytesS_map (l : List UInt8) : unbytesS (l.map encB) = some l := by
 induction l with
 | nil => rfl
 | cons x l ih =>
  have hx := x.toNat_lt
  simp only [List.map_cons, encB, unbytesS]
  rw [if_pos (by omega), ih]
  simp
theorem bstring_spec (D : CallF) (B : BuS base H bb s l) (hl : l.length < 9223372036854775808) : Gx.Wp (strings_Builder_String k D (some ⟨bb, 0, none⟩) H) fun z => z.1 = bA l ∧ Chg (BOwn bb s) H z.2 ∧ ∃ pv, z.2.get bb = some (.cells [pv, .slice s.a s.len s.cap] 100 true 0) := by
 obtain ⟨pv, g, hpv⟩ := B.blk
 simp only [strings_Builder_String]
 have hsl : s.len = l.length := B.acc.row.1
 have gl := sldL_at (sp := none) (o := 0 + 1) g rfl
 rcases B.acc.st with ⟨rfl, rfl⟩ | ⟨b, gg⟩
 ·refine .bnd rfl (.bnd gl (.bnd rfl (.bnd rfl (.bnd gl (.bnd (show unsA 5 none ((0 : Nat) : Int) H = some (⟨#[]⟩, H) from rfl) (.of ⟨rfl, .refl _ _, pv, g⟩))))))
 ·have gb : H.get b = some (.cells (l.map encB) 5 true 0) := gg.blk
  have hp : 0 < l.length := List.length_pos_iff.2 gg.ne
  have hne : b ≠ bb := B.ne ⟨b, 0, some 2⟩ (by rw [gg.s])
  have e1 : sliceP s = some (some ⟨b, 0, none⟩) := by
   rw [gg.s]
   unfold sliceP
   have : Nat.beq l.length 0 = false := by
    cases c : Nat.beq l.length 0 with
    | false => rfl
    | true => have := Nat.eq_of_beq_eq_true c; omega
   simp only [this, cond_false]
  have e2 : unsA 5 (some ⟨b, 0, none⟩) (s.len : Int) H = some (bA l, H.set b (.cells (l.map encB) 5 true (max 0 l.length))) := by
   unfold unsA
   rw [hsl, if_neg (by omega)]
   simp only [gb]
   rw [if_pos ⟨trivial, by omega, by omega, trivial, by simp, by omega⟩, Int.toNat_natCast, List.take_of_length_le (by simp), unbytesS_map]
   rfl
  refine .bnd rfl (.bnd gl (.bnd e1 (.bnd rfl (.bnd gl (.bnd e2 (.of ⟨rfl, Chg.set (.inr (.inr ⟨⟨b, 0, some 2⟩, by rw [gg.s], rfl⟩)), pv, ?_⟩))))))
  simp only [AHeap.get_set]
  rw [if_neg (Ne.symm hne)]; exact g
end
end Ge
namespace Ge
open Go Gx
instance (a b : ByteArray) : Decidable (ltB a b) := by unfold ltB; exact inferInstance
section
variable {k : Nat} {h : AHeap} {fs fi : Slc} {sup : List ByteArray} {its : List It}
theorem isid_spec (D : CallF) (s : ByteArray) (h : AHeap) : sha_IsId k D s h = some (decide (s.size = 32), h) := by
 simp only [sha_IsId]
 by_cases c : s.size = 32
 ·simp [c]
 ·simp [c]; omega
end
end Ge
namespace Ge
open Go Gx
section
variable {k : Nat} {h : AHeap} {fs fi : Slc} {sup : List ByteArray} {its : List It}
end
end Ge
namespace Ge
open Go Gx
section
variable {k : Nat} {h : AHeap}
end
end Ge
namespace Ge
open Go Gx
section
variable {k : Nat} {h : AHeap} {fs fi : Slc} {sup : List ByteArray} {its : List It}
end
end Ge
namespace Ge
open Go Gx
abbrev Rd := Option (List UInt8)
end Ge
namespace Ge
open Go Gx
def PRd (H : AHeap) (rb : Nat) (st : Rd) : Prop := ∃ (s : ByteArray) (e : Int), H.get rb = some (.cells [.string s, .int .i64 e] 157 true 0) ∧ s.size ≤ 1000000 ∧ (e = 0 ↔ st.isSome = true) ∧ ∀ l, st = some l → s = bA l
section
variable {k rb : Nat} {H H' : AHeap} {st : Rd}
theorem PRd.chg {S : Nat → Prop} (P : PRd H rb st) (hr : rb < H.next) (c : Chg S H H') (hs : ¬ S rb) : PRd H' rb st := by
 obtain ⟨s, e, h1, h2⟩ := P
 exact ⟨s, e, c.got hr hs h1, h2⟩
theorem PRd.keeps (P : PRd H rb st) (hr : rb < H.next) (c : Keeps H H') : PRd H' rb st := P.chg hr c fun f => f
theorem PRd.ok {l : List UInt8} (g : H.get rb = some (.cells [.string (bA l), .int .i64 0] 157 true 0)) (hl : l.length ≤ 1000000) : PRd H rb (some l) := ⟨bA l, 0, g, hl, by simp, fun l' h => by cases h; rfl⟩
theorem PRd.bad {s : ByteArray} {e : Int} (g : H.get rb = some (.cells [.string s, .int .i64 e] 157 true 0)) (hl : s.size ≤ 1000000) (he : e ≠ 0) : PRd H rb none := ⟨s, e, g, hl, by simpa using he, fun l h => by cases h⟩
end
end Ge
namespace Ge
open Go Gx
section
variable {k rb : Nat} {h H H' : AHeap} {st : Rd}
end
end Ge
namespace Ge
open Go Gx
section
variable {k rb : Nat} {h H H' : AHeap} {st : Rd}
theorem cut_spec (D : CallF) (s p : ByteArray) (h : AHeap) : strings_CutPrefix k D s p h = some (if (bl s).take p.size = bl p then (bA ((bl s).drop p.size), true) else (s, false), h) := by
 simp only [strings_CutPrefix, internal_stringslite_CutPrefix, internal_stringslite_HasPrefix]
 have hs : (bl s).length = s.size := rfl
 have hp : (bl p).length = p.size := rfl
 by_cases c : p.size ≤ s.size
 ·rw [if_pos (by simp; omega)]
  have s1 := subS_of (s := s) (lo := none) (hi := some (p.size : Int)) (i := 0) (j := p.size) rfl rfl (Nat.zero_le _) c
  have s2 := subS_of (s := s) (lo := some (p.size : Int)) (hi := none) (i := p.size) (j := s.size) rfl rfl c (Nat.le_refl _)
  rw [List.take_of_length_le (l := bl s) (by omega)] at s2
  rw [List.drop_zero] at s1
  simp only [s1, s2, Option.bind_some, beq_ba]
  by_cases c2 : (bl s).take p.size = bl p
  ·have this2 : (⟨⟨bl p⟩⟩ : ByteArray) = p := rfl
   simp [c2, this2]
   rfl
  ·have : ¬ (⟨⟨(bl s).take p.size⟩⟩ : ByteArray) = p := fun e => c2 (congrArg bl e)
   simp [this, c2]
 ·rw [if_neg (by simp; omega)]
  have : ¬ (bl s).take p.size = bl p := fun e => by
   have := congrArg List.length e
   rw [List.length_take] at this; omega
  simp [this]
end
end Ge
namespace Ge
open Go Gx
def hexT : List UInt8 := [48, 49, 50, 51, 52, 53, 54, 55, 56, 57, 97, 98, 99, 100, 101, 102]
def hexD (n : Nat) : UInt8 := hexT.getD n 0
def hexL (l : List UInt8) : List UInt8 := l.flatMap fun c => [hexD (c.toNat / 16), hexD (c.toNat % 16)]
def digV (c : UInt8) : Option Nat := if 48 ≤ c.toNat ∧ c.toNat ≤ 57 then some (c.toNat - 48) else if 97 ≤ c.toNat ∧ c.toNat ≤ 102 then some (c.toNat - 87) else none
def unhexL : List UInt8 → Option (List UInt8)
 | [] => some []
 | [_] => none
 | a :: b :: l => match digV a, digV b, unhexL l with
  | some x, some y, some r => some (UInt8.ofNat (16 * x + y) :: r)
  | _, _, _ => none
theorem hexD_at {n : Nat} (h : n < 16) : hexT[n]? = some (hexD n) := by
 have : ∀ n : Fin 16, hexT[n.val]? = some (hexD n.val) := by decide
 exact this ⟨n, h⟩
theorem digV_lt {c : UInt8} {x : Nat} (h : digV c = some x) : x < 16 := by
 unfold digV at h
 split at h
 ·cases h; omega
 ·split at h
  ·cases h; omega
  ·cases h
theorem digV_hex {n : Nat} (h : n < 16) : digV (hexD n) = some n := by
 have : ∀ n : Fin 16, digV (hexD n.val) = some n.val := by decide
 exact this ⟨n, h⟩
theorem hex_dig {c : UInt8} {x : Nat} (h : digV c = some x) : hexD x = c := by
 have : ∀ c : Fin 256, ∀ x, digV (UInt8.ofNat c.val) = some x → hexD x = UInt8.ofNat c.val := by
  intro c
  have : ∀ c : Fin 256, (digV (UInt8.ofNat c.val)).all (fun x => hexD x == UInt8.ofNat c.val) = true := by decide +kernel
  intro x hx
  have h2 := this c
  rw [hx] at h2
  simpa using h2
 have h2 := this ⟨c.toNat, c.toNat_lt⟩ x
 simp only [UInt8.ofNat_toNat] at h2
 exact h2 h
theorem unhex_hex : ∀ l : List UInt8, unhexL (hexL l) = some l
 | [] => rfl
 | c :: l => by
  have hc := c.toNat_lt
  have e : hexL (c :: l) = hexD (c.toNat / 16) :: hexD (c.toNat % 16) :: hexL l := rfl
  rw [e]
  unfold unhexL
  rw [digV_hex (by omega), digV_hex (by omega), unhex_hex l]
  simp only [Option.some.injEq, List.cons.injEq, and_true]
  rw [show 16 * (c.toNat / 16) + c.toNat % 16 = c.toNat by omega, UInt8.ofNat_toNat]
theorem hex_unhex : ∀ {l r : List UInt8}, unhexL l = some r → hexL r = l
 | [], r, h => by cases h; rfl
 | [_], r, h => by cases h
 | a :: b :: l, r, h => by
  unfold unhexL at h
  split at h
  ·rename_i x y r2 h1 h2 h3
   cases h
   have hx := digV_lt h1
   have hy := digV_lt h2
   have e : (UInt8.ofNat (16 * x + y)).toNat = 16 * x + y := by simp [UInt8.toNat_ofNat']; omega
   show hexD ((UInt8.ofNat (16 * x + y)).toNat / 16) :: hexD ((UInt8.ofNat (16 * x + y)).toNat % 16) :: hexL r2 = _
   rw [e, show (16 * x + y) / 16 = x by omega, show (16 * x + y) % 16 = y by omega, hex_dig h1, hex_dig h2, hex_unhex h3]
  ·cases h
theorem hexL_len (l : List UInt8) : (hexL l).length = 2 * l.length := by
 induction l with
 | nil => rfl
 | cons c l ih =>
  have e : hexL (c :: l) = hexD (c.toNat / 16) :: hexD (c.toNat % 16) :: hexL l := rfl
  rw [e]; simp only [List.length_cons, ih]; omega
theorem idxB_dig (c : UInt8) : idxB ⟨#[48, 49, 50, 51, 52, 53, 54, 55, 56, 57, 97, 98, 99, 100, 101, 102]⟩ (c.toNat : Int) = match digV c with | some v => (v : Int) | none => -1 := by
 have : ∀ c : Fin 256, idxB ⟨#[48, 49, 50, 51, 52, 53, 54, 55, 56, 57, 97, 98, 99, 100, 101, 102]⟩ (c.val : Int) = match digV (UInt8.ofNat c.val) with | some v => (v : Int) | none => -1 := by decide +kernel
 have h := this ⟨c.toNat, c.toNat_lt⟩
 simp only [UInt8.ofNat_toNat] at h
 exact h
theorem and15 (c : UInt8) : Go.bits .and .u8 (c.toNat : Int) 15 = ((c.toNat % 16 : Nat) : Int) := by
 have : ∀ c : Fin 256, Go.bits .and .u8 (c.val : Int) 15 = ((c.val % 16 : Nat) : Int) := by decide +kernel
 exact this ⟨c.toNat, c.toNat_lt⟩
theorem orHex {x y : Nat} (hx : x < 16) (hy : y < 16) : IntKind.wrap .u8 (Go.bits .or .i64 (IntKind.wrap .i64 ((x : Int) * 16)) (y : Int)) = ((16 * x + y : Nat) : Int) := by
 have : ∀ x y : Fin 16, IntKind.wrap .u8 (Go.bits .or .i64 (IntKind.wrap .i64 ((x.val : Int) * 16)) (y.val : Int)) = ((16 * x.val + y.val : Nat) : Int) := by decide +kernel
 exact this ⟨x, hx⟩ ⟨y, hy⟩
section
variable {k base bb : Nat} {H : AHeap} {s : Slc} {l : List UInt8}
theorem wbyte_spec (D : CallF) (B : BuS base H bb s l) (c : UInt8) (hx : l.length ≤ 100000000) :
  Gx.Wp (strings_Builder_WriteByte k D (some ⟨bb, 0, none⟩) (c.toNat : Int) H) fun z => ∃ s', BuS base z.2 bb s' (l ++ [c]) ∧ Chg (BOwn bb s) H z.2 ∧ ∀ y, BOwn bb s' y → H.next ≤ y ∨ BOwn bb s y := by
 simp only [strings_Builder_WriteByte]
 obtain ⟨pv, g, hpv⟩ := B.blk
 have hlt := B.lt
 have hge := B.ge
 obtain ⟨H1, e1, g1, c1⟩ : ∃ H1, ccA ccTab ⟨bb, 0, none⟩ H = some H1 ∧ H1.get bb = some (.cells [.pointer (some ⟨bb, 0, none⟩), .slice s.a s.len s.cap] 100 true 0) ∧ Chg (· = bb) H H1 := by
  have ht : tabIn 100 0 2 ccTab = true := by decide
  rcases hpv with rfl | rfl
  ·refine ⟨_, ?_, sset_get _ _ _, Chg.set (.inr rfl)⟩
   ·unfold ccA
    simp only [g]
    rw [if_pos ⟨by simpa using ht, trivial⟩]
    show st1 ⟨bb, 0, none⟩ _ H = _
    rw [st1_of g (by simp) rfl]; rfl
  ·refine ⟨H, ?_, g, .refl _ _⟩
   ·unfold ccA
    simp only [g]
    rw [if_pos ⟨by simpa using ht, trivial⟩]
    simp
 have nx1 := c1.nx
 have A1 : Acc encB 5 base H1 s l := B.acc.chg c1 fun a ha e => B.ne a ha e
 refine .bnd rfl (.bnd e1 (.bnd rfl (.bnd (sldL_at (o := 0 + 1) g1 rfl) (Wp.newE fun H5 e5 k5 n5 g5 => ?_))))
 obtain ⟨s', h5, a1, a2, A5, c5, d5⟩ := Acc.pushK A1 (fun _ => rfl) c (bytes := 1) e5 (by omega) (by decide) (by omega)
 have nn := c5.nx
 have g15 : h5.get bb = some (.cells [.pointer (some ⟨bb, 0, none⟩), .slice s.a s.len s.cap] 100 true 0) := c5.got (by omega) (fun ⟨a, ha, e⟩ => B.ne a ha e.symm) g1
 refine .bnd a1 (.bnd a2 (.bnd rfl (.bnd (st1_of g15 (by simp) rfl) (.of ?_))))
 have d5' : ∀ a, s'.a = some a → a.block ≠ bb := fun a ha e => by have := d5 a ha; omega
 refine ⟨s', ⟨⟨_, sset_get _ _ _, .inr rfl⟩, A5.chg (S := (· = bb)) (Chg.set (.inr rfl)) fun a ha e => d5' a ha e, by simp; omega, hge, d5'⟩, ?_, ?_⟩
 ·refine Chg.beh (T := (· = bb)) (Chg.beh (T := ofS s) (c1.wk fun y _ e => .inl e) c5 fun y _ e => .inr e) (Chg.set (.inr rfl)) fun y _ e => .inl e
 ·rintro y (rfl | ⟨a, ha, rfl⟩)
  ·exact .inr (.inl rfl)
  ·left; have := d5 a ha; omega
theorem tbl_at {n : Nat} (h : n < 16) : Gx.idxS ⟨#[48, 49, 50, 51, 52, 53, 54, 55, 56, 57, 97, 98, 99, 100, 101, 102]⟩ (n : Int) = some ((hexD n).toNat : Int) := idxS_of (hexD_at h)
theorem hex_spec (D : CallF) (s : ByteArray) (hs : s.size ≤ 2000000) (hk : s.size + 10 ≤ k) (h : AHeap) : Gx.Wp (sha_Hex k D s h) fun z => z.1 = bA (hexL (bl s)) ∧ Keeps h z.2 := by
 simp only [sha_Hex]
 have hl : (bl s).length = s.size := rfl
 refine Wp.newE fun h1 e1 k1 n1 g1 => Gx.Wp.jn fun j4 h4 => Wp.newE fun h6 e6 k6 n6 g6 => ?_
 have B1 : BuS h.next h1 h.next ⟨none, 0, 0⟩ [] := BuS.new h g1 n1
 unfold sha_Hex_l0
 obtain ⟨bot, eb⟩ := iterK_of (fun _ _ _ _ _ => none) (sha_Hex_l0b k D j4) (show s.size + 1 ≤ k by omega)
 rw [eb]
 have loop : ∀ (d i : Nat) (o : Slc) (H : AHeap), i + d = s.size → Chg (BOwn h.next ⟨none, 0, 0⟩) h6 H → BuS h.next H h.next o (hexL ((bl s).take i)) → (∀ y, BOwn h.next o y → h6.next ≤ y ∨ y = h.next) → Gx.Wp (iterK bot (d + 1) (sha_Hex_l0b k D j4) (some ⟨h.next, 0, none⟩) ⟨some ⟨h1.next, 0, some 2⟩, s.size, s.size⟩ (s.size : Int) (i : Int) H) fun z => z.1 = bA (hexL (bl s)) ∧ Keeps h z.2 := fun d => by
  induction d with
  | zero =>
   intro i o H hd c B ho
   rw [iterK_s]; simp only [sha_Hex_l0b]
   rw [List.take_of_length_le (by omega)] at B
   refine .ifn (by simp; omega) ?_
   rw [h4]
   have hll := hexL_len (bl s)
   refine .call (bstring_spec D B (by omega)) fun r ⟨q1, q2, _⟩ => .of ⟨q1, ?_⟩
   have kH : Keeps h H := (k1.trans k6).keepsS c fun y hy => by
    rcases hy with rfl | ⟨a, ha, _⟩
    ·exact Nat.le_refl _
    ·cases ha
   exact kH.keepsS q2 fun y hy => (B.own hy).1
  | succ d ih =>
   intro i o H hd c B ho
   rw [iterK_s]; simp only [sha_Hex_l0b]
   obtain ⟨x, hx⟩ := isome (l := bl s) (i := i) (by omega)
   have hxl := x.toNat_lt
   have nx := c.nx
   have g6' : h6.get h1.next = some (.cells ((bl s).map encB) 5 true 18446744073709551616) := g6
   have gH : H.get h1.next = some (.cells ((bl s).map encB) 5 true 18446744073709551616) := c.got (by omega) (fun q => by
    rcases q with q | ⟨a, ha, _⟩
    ·omega
    ·cases ha) g6'
   have ei : Gx.idxL 1 ⟨some ⟨h1.next, 0, some 2⟩, s.size, s.size⟩ (i : Int) = some ⟨h1.next, i, none⟩ := idxL_out (by omega)
   have lh := hexL_len ((bl s).take i)
   rw [List.length_take] at lh
   have f16 : Int.fdiv (x.toNat : Int) 16 = ((x.toNat / 16 : Nat) : Int) := by rw [Int.fdiv_eq_ediv_of_nonneg _ (by decide)]; omega
   refine .ifp (by simp; omega) (.bnd ei (.bnd (rdB_out gH hx) ?_))
   rw [f16, and15]
   refine .bnd (tbl_at (by omega)) (.call (wbyte_spec D B _ (by omega)) fun r1 ⟨o1, B1, c1, d1⟩ => .bnd (tbl_at (by omega)) (.call (wbyte_spec D B1 _ (by rw [List.length_append, List.length_singleton]; omega)) fun r2 ⟨o2, B2, c2, d2⟩ => ?_))
   rw [Gx.w1 (by omega)]
   have n1' := c1.nx
   have ho1 : ∀ y, BOwn h.next o1 y → h6.next ≤ y ∨ y = h.next := fun y hy => by
    rcases d1 y hy with q | q
    ·left; omega
    ·exact ho y q
   refine ih (i + 1) o2 r2.2 (by omega) ?_ ?_ (fun y hy => ?_)
   ·refine Chg.beh (Chg.beh c c1 fun y hy q => ?_) c2 fun y hy q => ?_
    ·rcases ho y q with e | e
     ·omega
     ·exact .inl e
    ·rcases ho1 y q with e | e
     ·omega
     ·exact .inl e
   ·have : hexL ((bl s).take (i + 1)) = hexL ((bl s).take i) ++ [hexD (x.toNat / 16)] ++ [hexD (x.toNat % 16)] := by
     rw [List.take_add_one, hx]; simp [hexL]
    rw [this]; exact B2
   ·rcases d2 y hy with q | q
    ·left; omega
    ·exact ho1 y q
 exact loop s.size 0 ⟨none, 0, 0⟩ h6 (by omega) (.refl _ _) (by simpa [hexL] using B1.keeps k6) (fun y hy => by
  rcases hy with e | ⟨a, ha, _⟩
  ·exact .inr e
  ·cases ha)
end
end Ge
namespace Ge
open Go Gx
def digI (c : UInt8) : Int := match digV c with | some v => (v : Int) | none => -1
theorem digI_some {c : UInt8} {x : Nat} (h : digV c = some x) : digI c = (x : Int) := by unfold digI; rw [h]
theorem digI_none {c : UInt8} (h : digV c = none) : digI c = -1 := by unfold digI; rw [h]
section
variable {k base bb : Nat} {H : AHeap} {s : Slc} {l : List UInt8}
def unhexR (l : List UInt8) : ByteArray × Int := match unhexL l with
 | some r => (bA r, 0)
 | none => (⟨#[]⟩, 3)
theorem unhex_snoc : ∀ (l : List UInt8) {p r : List UInt8} {n : Nat}, p.length = 2 * n → unhexL p = some r → unhexL (p ++ l) = (unhexL l).map (r ++ ·)
 | l, [], r, n, hp, h => by cases h; simp
 | l, [_], r, n, hp, h => by cases h
 | l, a :: b :: p, r, n, hp, h => by
  unfold unhexL at h
  split at h
  ·rename_i x y r2 h1 h2 h3
   cases h
   have := unhex_snoc l (p := p) (r := r2) (n := n - 1) (by simp at hp; omega) h3
   show unhexL (a :: b :: (p ++ l)) = _
   conv => lhs; unfold unhexL
   rw [h1, h2, this]
   cases unhexL l <;> rfl
  ·cases h
theorem unhex_spec (D : CallF) (s : ByteArray) (hs : s.size ≤ 2000000) (hk : s.size + 10 ≤ k) (h : AHeap) : Gx.Wp (sha_Unhex k D s h) fun z => z.1 = unhexR (bl s) ∧ Keeps h z.2 := by
 simp only [sha_Unhex]
 have hl : (bl s).length = s.size := rfl
 refine Wp.newE fun h1 e1 k1 n1 g1 => Gx.Wp.jn fun j4 h4 => ?_
 have B1 : BuS h.next h1 h.next ⟨none, 0, 0⟩ [] := BuS.new h g1 n1
 unfold sha_Unhex_l0
 obtain ⟨bot, eb⟩ := iterK_of (fun _ _ _ _ => none) (sha_Unhex_l0b k D j4) (show s.size / 2 + 1 ≤ k by omega)
 rw [eb]
 have ib : ∀ (c : UInt8) (H : AHeap), strings_IndexByte k D ⟨#[48, 49, 50, 51, 52, 53, 54, 55, 56, 57, 97, 98, 99, 100, 101, 102]⟩ (c.toNat : Int) H = some (digI c, H) := fun c H => by
  simp only [strings_IndexByte, internal_stringslite_IndexByte, Option.bind_some]
  rw [show idxB _ _ = digI c from idxB_dig c]
 have loop : ∀ (d i : Nat) (o : Slc) (H : AHeap) (r : List UInt8), i + d = s.size / 2 → Chg (BOwn h.next ⟨none, 0, 0⟩) h1 H → BuS h.next H h.next o r → unhexL ((bl s).take (2 * i)) = some r → r.length = i → Gx.Wp (iterK bot (d + 1) (sha_Unhex_l0b k D j4) s (some ⟨h.next, 0, none⟩) ((2 * i : Nat) : Int) H) fun z => z.1 = unhexR (bl s) ∧ Keeps h z.2 := fun d => by
  induction d with
  | zero =>
   intro i o H r hd c B hu hr
   have kH : Keeps h H := k1.keepsS c fun y hy => by
    rcases hy with rfl | ⟨a, ha, _⟩
    ·exact Nat.le_refl _
    ·cases ha
   rw [iterK_s]; simp only [sha_Unhex_l0b]
   by_cases c1 : 2 * i < s.size
   ·-- one is left over
    refine .ifp (by simp; omega) (.ifp (by rw [Gx.w1 (by omega)]; simp; omega) (.of ⟨?_, kH⟩))
    have hrest : ∃ y, (bl s).drop (2 * i) = [y] := by
     obtain ⟨y, hy⟩ := isome (l := bl s) (i := 2 * i) (by omega)
     refine ⟨y, ?_⟩
     rw [dropc hy, List.drop_of_length_le (by omega)]
    obtain ⟨y, hy⟩ := hrest
    have e : unhexL (bl s) = none := by
     have h2 := unhex_snoc [y] (n := i) (by rw [List.length_take]; omega) hu
     rw [← hy, List.take_append_drop, hy] at h2
     rw [h2]; rfl
    unfold unhexR
    rw [e]
   ·refine .ifn (by simp; omega) ?_
    rw [h4]
    rw [List.take_of_length_le (by omega)] at hu
    refine .call (bstring_spec D B (by omega)) fun r5 ⟨q1, q2, _⟩ => .of ⟨?_, kH.keepsS q2 fun y hy => (B.own hy).1⟩
    unfold unhexR
    rw [hu, q1]
  | succ d ih =>
   intro i o H r hd c B hu hr
   have kH : Keeps h H := k1.keepsS c fun y hy => by
    rcases hy with rfl | ⟨a, ha, _⟩
    ·exact Nat.le_refl _
    ·cases ha
   rw [iterK_s]; simp only [sha_Unhex_l0b]
   obtain ⟨a, ha⟩ := isome (l := bl s) (i := 2 * i) (by omega)
   obtain ⟨b, hb⟩ := isome (l := bl s) (i := 2 * i + 1) (by omega)
   have e1 : IntKind.wrap .i64 (((2 * i : Nat) : Int) + 1) = ((2 * i + 1 : Nat) : Int) := Gx.w1 (by omega)
   have e2 : IntKind.wrap .i64 (((2 * i : Nat) : Int) + 2) = ((2 * (i + 1) : Nat) : Int) := by rw [Gx.w64 _ (by omega)]; omega
   rw [e1, e2]
   refine .ifp (by simp; omega) (.ifn (by simp; omega) (.bnd (idxS_of ha) (.bnd (ib a H) (.bnd (idxS_of hb) (.bnd (ib b H) ?_)))))
   have hsplit : unhexL (bl s) = (unhexL (a :: b :: (bl s).drop (2 * i + 2))).map (r ++ ·) := by
    have h2 := unhex_snoc ((bl s).drop (2 * i)) (n := i) (by rw [List.length_take]; omega) hu
    rw [List.take_append_drop] at h2
    rw [h2, dropc ha, dropc hb]
   have htake : (bl s).take (2 * (i + 1)) = (bl s).take (2 * i) ++ [a, b] := by
    rw [show 2 * (i + 1) = 2 * i + 1 + 1 by omega, List.take_add_one, List.take_add_one, ha, hb]; simp
   have bad : digV a = none ∨ digV b = none → unhexL (bl s) = none := fun q => by
    rw [hsplit]
    have : unhexL (a :: b :: (bl s).drop (2 * i + 2)) = none := by
     conv => lhs; unfold unhexL
     rcases q with q | q
     ·rw [q]
     ·rw [q]; cases digV a <;> rfl
    rw [this]; rfl
   cases da : digV a with
   | none =>
    refine .ifp ?_ (.of ⟨by unfold unhexR; rw [bad (.inl da)], kH⟩)
    dsimp only
    rw [digI_none da]
    cases db : digV b with
    | none => rw [digI_none db]; simp
    | some y =>
     rw [digI_some db, if_neg (by omega)]
     decide
   | some x =>
    cases db : digV b with
    | none =>
     refine .ifp ?_ (.of ⟨by unfold unhexR; rw [bad (.inr db)], kH⟩)
     dsimp only
     rw [digI_some da, digI_none db, if_pos (by omega)]
     decide
    | some y =>
     have hx := digV_lt da
     have hy := digV_lt db
     refine .ifn ?_ ?_
     ·dsimp only
      rw [digI_some da, digI_some db]
      split <;> simp <;> omega
     ·dsimp only
      rw [digI_some da, digI_some db, orHex hx hy]
      have ec : (((16 * x + y : Nat) : Int)) = ((UInt8.ofNat (16 * x + y)).toNat : Int) := by simp [UInt8.toNat_ofNat']; omega
      rw [ec]
      refine .call (wbyte_spec D B _ (by omega)) fun r16 ⟨o2, B2, c2, d2⟩ => ?_
      refine ih (i + 1) o2 r16.2 (r ++ [UInt8.ofNat (16 * x + y)]) (by omega) (Chg.beh c c2 fun z hz q => ?_) B2 ?_ (by simp [hr])
      ·have := (B.own q).1
       by_cases e : z = h.next
       ·exact .inl e
       ·omega
      ·rw [htake, unhex_snoc [a, b] (n := i) (by rw [List.length_take]; omega) hu]
       have : unhexL [a, b] = some [UInt8.ofNat (16 * x + y)] := by
        conv => lhs; unfold unhexL
        rw [da, db]; rfl
       rw [this]; rfl
 exact loop (s.size / 2) 0 ⟨none, 0, 0⟩ h1 [] (by omega) (.refl _ _) B1 (by simp [unhexL]) rfl
end
end Ge
namespace Ge
open Go Gx
section
variable {k : Nat}
def idOfR (p l : List UInt8) : ByteArray × Int := if l.take p.length = p then (match unhexL (l.drop p.length) with
 | some r => if r.length = 32 then (bA r, 0) else (⟨#[]⟩, 5)
 | none => (⟨#[]⟩, 5)) else (⟨#[]⟩, 5)
end
end Ge
namespace Ge
open Go Gx
def RRd (H : AHeap) (rb : Nat) (st : Rd) : Prop := ∃ (S : ByteArray) (a : Nat) (e : Int), H.get rb = some (.cells [.string S, .int .i64 (a : Int), .int .i64 e] 86 true 0) ∧ S.size ≤ 1000000 ∧ a ≤ S.size ∧ (e = 0 ↔ st.isSome = true) ∧ ∀ l, st = some l → l = (bl S).drop a
section
variable {k rb : Nat} {H H' : AHeap} {st : Rd}
theorem RRd.chg {S : Nat → Prop} (P : RRd H rb st) (hr : rb < H.next) (c : Chg S H H') (hs : ¬ S rb) : RRd H' rb st := by
 obtain ⟨s, a, e, h1, h2⟩ := P
 exact ⟨s, a, e, c.got hr hs h1, h2⟩
theorem RRd.keeps (P : RRd H rb st) (hr : rb < H.next) (c : Keeps H H') : RRd H' rb st := P.chg hr c fun f => f
theorem RRd.ok {S : ByteArray} {a : Nat} (g : H.get rb = some (.cells [.string S, .int .i64 (a : Int), .int .i64 0] 86 true 0)) (hl : S.size ≤ 1000000) (ha : a ≤ S.size) : RRd H rb (some ((bl S).drop a)) := ⟨S, a, 0, g, hl, ha, by simp, fun l' h => by cases h; rfl⟩
theorem RRd.bad {S : ByteArray} {a : Nat} {e : Int} (g : H.get rb = some (.cells [.string S, .int .i64 (a : Int), .int .i64 e] 86 true 0)) (hl : S.size ≤ 1000000) (ha : a ≤ S.size) (he : e ≠ 0) : RRd H rb none := ⟨S, a, e, g, hl, ha, by simpa using he, fun l h => by cases h⟩
section
variable {S : ByteArray} {a : Nat} {e : Int}
end
end
end Ge
namespace Ge
open Go Gx
def RRx (S : ByteArray) (H : AHeap) (rb : Nat) (st : Rd) : Prop := ∃ (a : Nat) (e : Int), H.get rb = some (.cells [.string S, .int .i64 (a : Int), .int .i64 e] 86 true 0) ∧ S.size ≤ 9000000000000000000 ∧ a ≤ S.size ∧ (e = 0 ↔ st.isSome = true) ∧ ∀ l, st = some l → l = (bl S).drop a
section
variable {k rb : Nat} {H H' : AHeap} {st : Rd} {S : ByteArray}
theorem RRx.ok {a : Nat} (g : H.get rb = some (.cells [.string S, .int .i64 (a : Int), .int .i64 0] 86 true 0)) (hl : S.size ≤ 9000000000000000000) (ha : a ≤ S.size) : RRx S H rb (some ((bl S).drop a)) := ⟨a, 0, g, hl, ha, by simp, fun l' h => by cases h; rfl⟩
theorem RRx.bad {a : Nat} {e : Int} (g : H.get rb = some (.cells [.string S, .int .i64 (a : Int), .int .i64 e] 86 true 0)) (hl : S.size ≤ 9000000000000000000) (ha : a ≤ S.size) (he : e ≠ 0) : RRx S H rb none := ⟨a, e, g, hl, ha, by simpa using he, fun l h => by cases h⟩
end
end Ge
namespace Ge
open Go Gx
abbrev Sq := List UInt8 × Nat × Nat
def numB (n : Nat) : List UInt8 := if n < 15 then [] else List.replicate ((n - 15) / 255) 255 ++ [UInt8.ofNat ((n - 15) % 255)]
def tokB (a d n : Nat) : UInt8 := UInt8.ofNat (min a 15 * 16 + if 0 < d then min (n - 4) 15 else 0)
def seqB (l : List UInt8) (d n : Nat) : List UInt8 := tokB l.length d n :: numB l.length ++ l ++ if 0 < d then UInt8.ofNat (d % 256) :: UInt8.ofNat (d / 256) :: numB (n - 4) else []
end Ge
namespace Ge
open Go Gx
def lcp : List UInt8 → List UInt8 → Nat
 | a :: x, b :: y => if a = b then lcp x y + 1 else 0
 | _, _ => 0
abbrev Fr := List UInt8 × Nat × Nat
def four (s : List UInt8) (i : Nat) : List UInt8 := (s.drop i).take 4
def bestA (s : List UInt8) (i : Nat) : Nat → Nat × Nat
 | 0 => (0, 0)
 | n + 1 => if (bestA s i n).2 < lcp (s.drop (i - (n + 1))) (s.drop i) then (n + 1, lcp (s.drop (i - (n + 1))) (s.drop i)) else bestA s i n
def bestF (s : List UInt8) (i : Nat) (es : List Fr) : Nat × Nat :=
 match lkM (four s i) es with
 | some v => if i - v ≤ 65535 ∧ (bestA s i (min 64 i)).2 < lcp (s.drop v) (s.drop i) then (i - v, lcp (s.drop v) (s.drop i)) else bestA s i (min 64 i)
 | none => bestA s i (min 64 i)
def put1 (s : List UInt8) (i : Nat) (es : List Fr) : List Fr := if i + 4 ≤ s.length then ptM (four s i) i es.length es else es
def putN (s : List UInt8) : Nat → Nat → List Fr → List Fr
 | 0, _, es => es
 | n + 1, i, es => putN s n (i + 1) (put1 s i es)
def packL (s : List UInt8) : Nat → Nat → Nat → List Fr → List UInt8 → List UInt8
 | 0, _, _, _, out => out
 | f + 1, i, kept, es, out =>
  if i + 4 < s.length then
   if 4 ≤ min (bestF s i es).2 (s.length - 1 - i) then
    packL s f (i + min (bestF s i es).2 (s.length - 1 - i)) (i + min (bestF s i es).2 (s.length - 1 - i)) (putN s (min (bestF s i es).2 (s.length - 1 - i)) i es)
     (out ++ seqB ((s.take i).drop kept) (bestF s i es).1 (min (bestF s i es).2 (s.length - 1 - i)))
   else packL s f (i + 1) kept (putN s 1 i es) out
  else out ++ seqB (s.drop kept) 0 0
def packA (s : List UInt8) : List UInt8 := packL s (s.length + 1) 0 0 [] []
theorem bestA_ok (s : List UInt8) (i : Nat) : ∀ n, n ≤ 64 → n ≤ i → (bestA s i n).2 = 0 ∨ (0 < (bestA s i n).1 ∧ (bestA s i n).1 ≤ 65535 ∧ (bestA s i n).1 ≤ i ∧ (bestA s i n).2 = lcp (s.drop (i - (bestA s i n).1)) (s.drop i))
 | 0, _, _ => .inl rfl
 | n + 1, h1, h2 => by
  unfold bestA
  split
  ·exact .inr ⟨by simp, by simp; omega, by simpa using h2, rfl⟩
  ·exact bestA_ok s i n (by omega) (by omega)
def Ahead (i : Nat) (es : List Fr) : Prop := ∀ e ∈ es, e.2.1 < i
theorem put1_ahead {s : List UInt8} {i : Nat} {es : List Fr} (h : Ahead i es) : Ahead (i + 1) (put1 s i es) := by
 intro e he
 unfold put1 at he
 split at he
 ·rcases ptM_mem he with ⟨_, g⟩ | g
  ·omega
  ·have := h e g; omega
 ·have := h e he; omega
theorem putN_ahead {s : List UInt8} : ∀ (n i : Nat) {es : List Fr}, Ahead i es → Ahead (i + n) (putN s n i es)
 | 0, i, es, h => h
 | n + 1, i, es, h => by
  have := putN_ahead (s := s) n (i + 1) (put1_ahead (s := s) h)
  rw [show i + (n + 1) = i + 1 + n by omega]; exact this
theorem bestF_ok {s : List UInt8} {i : Nat} {es : List Fr} (ha : Ahead i es) : (bestF s i es).2 = 0 ∨ (0 < (bestF s i es).1 ∧ (bestF s i es).1 ≤ 65535 ∧ (bestF s i es).1 ≤ i ∧ (bestF s i es).2 = lcp (s.drop (i - (bestF s i es).1)) (s.drop i)) := by
 have b := bestA_ok s i (min 64 i) (by omega) (by omega)
 unfold bestF
 split
 ·rename_i v hv
  obtain ⟨e, he, _, e2⟩ := lkM_mem hv
  have := ha e he
  split
  ·rename_i c
   exact .inr ⟨by simp; omega, c.1, by simp, by simp only []; rw [show i - (i - v) = v by omega]⟩
  ·exact b
 ·exact b
end Ge
namespace Ge
open Go Gx
theorem ldS_at {h : AHeap} {b o : Nat} {sp : Option Nat} {c : List Value} {e : TypeId} {r : Bool} {fz : Nat} {m : ByteArray} (hb : h.get b = some (.cells c e r fz)) (hc : c[o]? = some (.string m)) : Gx.ldS ⟨b, o, sp⟩ h = some m := by
 simp [Gx.ldS, AHeap.rd1, hb, hc, decS]
theorem ldM_at {h : AHeap} {b o : Nat} {sp : Option Nat} {c : List Value} {e : TypeId} {r : Bool} {fz : Nat} {m : Option Nat} (hb : h.get b = some (.cells c e r fz)) (hc : c[o]? = some (.map m)) : Gx.ldM ⟨b, o, sp⟩ h = some m := by
 simp [Gx.ldM, AHeap.rd1, hb, hc, decM]
structure RL (h : AHeap) (rb : Nat) (s : ByteArray) (p : Nat) (bad : Bool) : Prop where
 g : h.get rb = some (.cells [.string s, .int .i64 (p : Int), .bool bad] 170 true 0)
 lt : rb < h.next
section
variable {k rb p : Nat} {h h' : AHeap} {s : ByteArray} {b : Bool}
theorem RL.chg {S : Nat → Prop} (R : RL h rb s p b) (c : Chg S h h') (hs : ¬ S rb) : RL h' rb s p b := ⟨c.got R.lt hs R.g, Nat.lt_of_lt_of_le R.lt c.nx⟩
theorem RL.keeps (R : RL h rb s p b) (c : Keeps h h') : RL h' rb s p b := R.chg c fun f => f
end
end Ge
namespace Ge
open Go Gx
section
variable {f a b long : Nat} {tok d0 d1 : UInt8} {l l1 l2 l3 : List UInt8}
end
end Ge
namespace Ge
open Go Gx
section
variable {k rb p : Nat} {h h' : AHeap} {s : ByteArray} {b : Bool}
end
section
variable {k rb : Nat} {s : ByteArray}
end
end Ge
namespace Ge
open Go Gx
section
variable {k : Nat} {s : ByteArray} {h : AHeap}
end
section
variable {ob r : Nat} {H : AHeap} {out : List UInt8}
end
section
variable {k ob N : Nat} {D : CallF}
end
end Ge
namespace Ge
open Go Gx
section
variable {k p : Nat} {h : AHeap} {s : ByteArray}
end
end Ge
namespace Ge
open Go Gx
theorem acc_bytes {base : Nat} {h : AHeap} {s : Slc} {xs : List UInt8} {e : TypeId} (A : Acc encB e base h s xs) : bytesOf h s = some ⟨⟨xs⟩⟩ := by
 rcases A.st with ⟨rfl, rfl⟩ | ⟨b, g⟩
 ·rfl
 ·rw [g.s]; exact bytesOf_out g.2
section
variable {k : Nat} {D : CallF} {h0 : AHeap} {l : Slc} {qs : List Sq}
end
end Ge
namespace Ge
open Go Gx
def vI (n : Nat) : Value := .int .i64 (n : Int)
theorem four_len {l : List UInt8} {i : Nat} (h : i + 4 ≤ l.length) : (four l i).length = 4 := by simp [four]; omega
theorem four_eq {l : List UInt8} {i : Nat} {a b c d : UInt8} (ha : l[i]? = some a) (hb : l[i + 1]? = some b) (hc : l[i + 2]? = some c) (hd : l[i + 3]? = some d) : four l i = [a, b, c, d] := by
 unfold four
 rw [dropc ha, dropc hb, dropc hc, dropc hd]; rfl
section
variable {k pb : Nat} {h : AHeap} {s : ByteArray} {m : Option Nat}
theorem four_spec (D : CallF) (g : h.get pb = some (.cells [.string s, .map m] 75 true 0)) (hl : pb < h.next) {i : Nat} (hi : i + 4 ≤ s.size) (hs : s.size ≤ 1048576) :
  Gx.Wp (lz_packer_four k D (some ⟨pb, 0, none⟩) (i : Int) h) fun z => Value.agg ⟨[.int .u8 z.1.1, .int .u8 z.1.2.1, .int .u8 z.1.2.2.1, .int .u8 z.1.2.2.2]⟩ = keyV (four (bl s) i) ∧ Keeps h z.2 := by
 simp only [lz_packer_four]
 obtain ⟨a, ha⟩ := isome (l := bl s) (i := i) (by rw [bl_length]; omega)
 obtain ⟨b, hb⟩ := isome (l := bl s) (i := i + 1) (by rw [bl_length]; omega)
 obtain ⟨c, hc⟩ := isome (l := bl s) (i := i + 2) (by rw [bl_length]; omega)
 obtain ⟨d, hd⟩ := isome (l := bl s) (i := i + 3) (by rw [bl_length]; omega)
 refine Wp.newE fun h1 e1 k1 n1 g1 => ?_
 have g' := k1.got hl g
 rw [Gx.w1 (by omega), show IntKind.wrap .i64 ((i : Int) + 2) = ((i + 2 : Nat) : Int) by rw [Gx.w64 _ (by omega)]; omega, show IntKind.wrap .i64 ((i : Int) + 3) = ((i + 3 : Nat) : Int) by rw [Gx.w64 _ (by omega)]; omega]
 refine .bnd rfl (.bnd (ldS_at g' rfl) (.bnd (idxS_of ha) (.bnd rfl (.bnd (ldS_at g' rfl) (.bnd (idxS_of hb) (.bnd rfl (.bnd (ldS_at g' rfl) (.bnd (idxS_of hc) (.bnd rfl (.bnd (ldS_at g' rfl) (.bnd (idxS_of hd) ?_)))))))))))
 refine Wp.stL g1 rfl rfl rfl (by decide) fun h14 c14 n14 g14 => .bnd (sldA_at g14 rfl) (.bnd (show decC [.i .u8, .i .u8, .i .u8, .i .u8] _ = some ((a.toNat : Int), (b.toNat : Int), (c.toNat : Int), (d.toNat : Int)) from rfl) (.of ⟨?_, k1.keepsS c14 fun y hy => by subst hy; omega⟩))
 rw [four_eq ha hb hc hd]; rfl
theorem alike_spec (D : CallF) (g : h.get pb = some (.cells [.string s, .map m] 75 true 0)) {f i : Nat} (hf : f < i) (hi : i ≤ s.size) (hs : s.size ≤ 1048576) (hk : s.size + 2 ≤ k) :
  lz_packer_alike k D (some ⟨pb, 0, none⟩) (f : Int) (i : Int) h = some (((lcp ((bl s).drop f) ((bl s).drop i) : Nat) : Int), h) := by
 simp only [lz_packer_alike]
 refine jn ?_
 obtain ⟨j3, h3⟩ : ∃ j3, j3 = (fun (n1 : Int) (h2 : AHeap) => some (n1, h2)) := ⟨_, rfl⟩
 rw [← h3]
 unfold lz_packer_alike_l0
 obtain ⟨bot, eb⟩ := iterK_of (fun _ _ _ _ _ => none) (lz_packer_alike_l0b k D j3) (show (s.size - i) + 1 ≤ k by omega)
 rw [eb]
 have loop : ∀ d n : Nat, i + n + d = s.size → iterK bot (d + 1) (lz_packer_alike_l0b k D j3) (some ⟨pb, 0, none⟩) (f : Int) (i : Int) (n : Int) h = some (((n + lcp ((bl s).drop (f + n)) ((bl s).drop (i + n)) : Nat) : Int), h) := fun d => by
  induction d with
  | zero =>
   intro n hd
   rw [iterK_s]; simp only [lz_packer_alike_l0b]
   refine jn ?_
   have e2 : (bl s).drop (i + n) = [] := List.drop_of_length_le (by rw [bl_length]; omega)
   have e3 : lcp ((bl s).drop (f + n)) [] = 0 := by cases (bl s).drop (f + n) <;> rfl
   rw [show IntKind.wrap .i64 ((i : Int) + (n : Int)) = ((i + n : Nat) : Int) by rw [Gx.w64 _ (by omega)]; omega]
   refine bnd rfl (bnd (ldS_at g rfl) (ifn (by simp; omega) (ifn (by decide) ?_)))
   rw [h3, e2, e3]; rfl
  | succ d ih =>
   intro n hd
   rw [iterK_s]; simp only [lz_packer_alike_l0b]
   refine jn ?_
   obtain ⟨a, ha⟩ := isome (l := bl s) (i := f + n) (by rw [bl_length]; omega)
   obtain ⟨b, hb⟩ := isome (l := bl s) (i := i + n) (by rw [bl_length]; omega)
   rw [show IntKind.wrap .i64 ((i : Int) + (n : Int)) = ((i + n : Nat) : Int) by rw [Gx.w64 _ (by omega)]; omega, show IntKind.wrap .i64 ((f : Int) + (n : Int)) = ((f + n : Nat) : Int) by rw [Gx.w64 _ (by omega)]; omega]
   refine bnd rfl (bnd (ldS_at g rfl) (ifp (by simp; omega) (bnd rfl (bnd (ldS_at g rfl) (bnd (idxS_of ha) (bnd rfl (bnd (ldS_at g rfl) (bnd (idxS_of hb) ?_))))))))
   rw [dropc ha, dropc hb]
   unfold lcp
   by_cases c : a = b
   ·rw [if_pos c]
    refine ifp (by rw [c]; simp) ?_
    rw [Gx.w1 (by omega), ih (n + 1) (by omega)]
    congr 3
    rw [show f + (n + 1) = f + n + 1 by omega, show i + (n + 1) = i + n + 1 by omega]
    omega
   ·rw [if_neg c]
    refine ifn ?_ ?_
    ·have : ¬ a.toNat = b.toNat := fun q => c (UInt8.toNat_inj.1 q)
     simp; omega
    ·rw [h3]; rfl
 have := loop (s.size - i) 0 (by omega)
 rw [Nat.add_zero, Nat.add_zero, Nat.zero_add] at this
 exact this
theorem best_spec (D : CallF) {mb : Nat} (g : h.get pb = some (.cells [.string s, .map (some mb)] 75 true 0)) (hl : pb < h.next) (hm : mb < h.next) {es : List Fr} (M : MapAt keyV vI h mb es) (k4 : ∀ e ∈ es, e.1.length = 4) {i : Nat} (ha : Ahead i es) (hi : i + 4 ≤ s.size) (hs : s.size ≤ 1048576) (hk : s.size + 100 ≤ k) :
  Gx.Wp (lz_packer_best k D (some ⟨pb, 0, none⟩) (i : Int) h) fun z => z.1 = (((bestF (bl s) i es).1 : Int), ((bestF (bl s) i es).2 : Int)) ∧ Keeps h z.2 := by
 simp only [lz_packer_best]
 refine Wp.jn fun j6 h6 => ?_
 unfold lz_packer_best_l0
 obtain ⟨n0, en0⟩ : ∃ n0, n0 = min 64 i := ⟨_, rfl⟩
 have en : (if (i : Int) < 64 then (i : Int) else 64) = (n0 : Int) := by
  by_cases z : i < 64
  ·rw [if_pos (by omega)]; omega
  ·rw [if_neg (by omega)]; omega
 obtain ⟨bot, eb⟩ := iterK_of (fun _ _ _ _ _ _ => none) (lz_packer_best_l0b k D j6) (show n0 + 1 ≤ k by omega)
 rw [eb]
 have fin : Gx.Wp (j6 (some ⟨pb, 0, none⟩) (i : Int) ((bestA (bl s) i n0).1 : Int) ((bestA (bl s) i n0).2 : Int) h) fun z => z.1 = (((bestF (bl s) i es).1 : Int), ((bestF (bl s) i es).2 : Int)) ∧ Keeps h z.2 := by
  rw [h6]
  refine .call (four_spec D g hl hi hs) fun r7 ⟨q7, k7⟩ => ?_
  have g7 := k7.got hl g
  have M7 := M.chg k7 hm (fun f => f)
  have lm : ldM ⟨pb, 0 + 1, none⟩ h = some (some mb) := ldM_at g rfl
  refine .bnd rfl (.bnd (ldM_at g7 rfl) (.gp (ssw1 (by dsimp only; rw [lm]; rfl)) ?_))
  rw [q7]
  have l4 := four_len (l := bl s) (i := i) (by rw [bl_length]; omega)
  have kq : ∀ e ∈ es, keyEq (keyV (four (bl s) i)) (keyV e.1) = some (decide (e.1 = four (bl s) i)) := fun e he => keyEq_V (by rw [l4, k4 e he])
  have lk := M7.look kq (dec := decI .i64) (dv := fun n : Nat => (n : Int)) (fun v => rfl) (z := .int .i64 0) (z0 := 0) rfl
  refine .bnd lk (Wp.jn fun j16 h16 => Wp.jn fun j24 h24 => ?_)
  have hb := bestA_ok (bl s) i (min 64 i) (by omega) (by omega)
  have ebF : bestF (bl s) i es = match lkM (four (bl s) i) es with
   | some v => if i - v ≤ 65535 ∧ (bestA (bl s) i n0).2 < lcp ((bl s).drop v) ((bl s).drop i) then (i - v, lcp ((bl s).drop v) ((bl s).drop i)) else bestA (bl s) i n0
   | none => bestA (bl s) i n0 := by rw [en0]; rfl
  cases hv : lkM (four (bl s) i) es with
  | none =>
   refine .ifn (by simp) ?_
   rw [h24]
   refine .ifn (by simp) ?_
   rw [h16]
   exact .of ⟨by rw [ebF, hv], k7⟩
  | some v =>
   obtain ⟨e, he, _, e2⟩ := lkM_mem hv
   have hvi := ha e he
   have ebF : bestF (bl s) i es = if i - v ≤ 65535 ∧ (bestA (bl s) i n0).2 < lcp ((bl s).drop v) ((bl s).drop i) then (i - v, lcp ((bl s).drop v) ((bl s).drop i)) else bestA (bl s) i n0 := by rw [ebF, hv]
   refine .ifp rfl ?_
   rw [h24]
   simp only []
   rw [show IntKind.wrap .i64 ((i : Int) - (v : Int)) = ((i - v : Nat) : Int) by rw [Gx.w64 _ (by omega)]; omega]
   by_cases c1 : i - v ≤ 65535
   ·refine .ifp (by simp; omega) (.bnd (alike_spec D g7 (by omega) (by omega) hs (by omega)) ?_)
    by_cases c2 : (bestA (bl s) i n0).2 < lcp ((bl s).drop v) ((bl s).drop i)
    ·rw [if_pos ⟨c1, c2⟩] at ebF
     rw [h16]
     exact .ifp (by simp; omega) (.of ⟨by rw [ebF], k7⟩)
    ·rw [if_neg (fun q => c2 q.2)] at ebF
     rw [h16]
     exact .ifn (by simp; omega) (.of ⟨by rw [ebF], k7⟩)
   ·rw [if_neg (fun q => c1 q.1)] at ebF
    refine .ifn (by simp; omega) ?_
    rw [h16]
    exact .of ⟨by rw [ebF], k7⟩
 have loop : ∀ d n : Nat, n + d = n0 → Gx.Wp (iterK bot (d + 1) (lz_packer_best_l0b k D j6) (some ⟨pb, 0, none⟩) (i : Int) ((bestA (bl s) i n).1 : Int) ((bestA (bl s) i n).2 : Int) ((n + 1 : Nat) : Int) h) fun z => z.1 = (((bestF (bl s) i es).1 : Int), ((bestF (bl s) i es).2 : Int)) ∧ Keeps h z.2 := fun d => by
  induction d with
  | zero =>
   intro n hd
   rw [iterK_s]; simp only [lz_packer_best_l0b]
   rw [en]
   refine .ifn (by simp; omega) ?_
   obtain rfl : n = n0 := by omega
   exact fin
  | succ d ih =>
   intro n hd
   rw [iterK_s]; simp only [lz_packer_best_l0b]
   rw [en]
   refine .ifp (by simp; omega) (Wp.jn fun j39 h39 => ?_)
   rw [show IntKind.wrap .i64 ((i : Int) - ((n + 1 : Nat) : Int)) = ((i - (n + 1) : Nat) : Int) by rw [Gx.w64 _ (by omega)]; omega]
   refine .bnd (alike_spec D g (by omega) (by omega) hs (by omega)) ?_
   have := ih (n + 1) (by omega)
   rw [h39]
   dsimp only
   rw [Gx.w1 (by omega)]
   unfold bestA at this
   by_cases c : (bestA (bl s) i n).2 < lcp ((bl s).drop (i - (n + 1))) ((bl s).drop i)
   ·rw [if_pos c] at this
    exact .ifp (by simp; omega) this
   ·rw [if_neg c] at this
    exact .ifn (by simp; omega) this
 exact loop n0 0 (by omega)
end
end Ge
namespace Ge
open Go Gx
structure WB (H : AHeap) (wb : Nat) (o : Slc) (out : List UInt8) : Prop where
 g : H.get wb = some (.cells [.slice o.a o.len o.cap] 78 true 0)
 A : Acc encB 5 (wb + 1) H o out
 lt : wb < H.next
section
variable {k wb : Nat} {H H' : AHeap} {o : Slc} {out : List UInt8} {D : CallF}
theorem WB.keeps (B : WB H wb o out) (c : Keeps H H') : WB H' wb o out := ⟨c.got B.lt B.g, B.A.keeps c, Nat.lt_of_lt_of_le B.lt c.nx⟩
theorem WB.chg {S : Nat → Prop} (B : WB H wb o out) (c : Chg S H H') (h1 : ∀ y, S y → y < wb ∨ H.next ≤ y) : WB H' wb o out := by
 refine ⟨c.got B.lt (fun q => ?_) B.g, B.A.chg c fun a ha q => ?_, Nat.lt_of_lt_of_le B.lt c.nx⟩
 ·have := h1 _ q; have := B.lt; omega
 ·have := h1 _ q; have := B.A.lt a ha; omega
theorem WB.app (B : WB H wb o out) {ys : List UInt8} (hs : 2 * (out.length + ys.length) * 1 ≤ 281474976710656) :
  ∃ o' h1, appendA 1 1 5 H o (ys.map encB) ys.length = some (o', h1) ∧ ∃ h2, st1 ⟨wb, 0, none⟩ (.slice o'.a o'.len o'.cap) h1 = some h2 ∧ WB h2 wb o' (out ++ ys) ∧ Chg (fun y => wb ≤ y) H h2 := by
 obtain ⟨o', h1, a, A', c, d⟩ := B.A.app (fun _ => rfl) ys hs (by decide) B.lt
 have no : ¬ ofS o wb := fun ⟨z, hz, e⟩ => by have := (B.A.lt z hz).2; omega
 have g1 := c.got B.lt no B.g
 have nx := c.nx
 refine ⟨o', h1, a, _, st1_of g1 (by simp) rfl, ⟨by simp, A'.chg (Chg.set (S := (· = wb)) (.inr rfl)) fun z hz e => ?_, by show wb < h1.next; have := B.lt; omega⟩, ?_⟩
 ·have e : z.block = wb := e
  have := (A'.lt z hz).2
  omega
 ·refine Chg.trans (c.wk fun y _ ⟨z, hz, e⟩ => by have := (B.A.lt z hz).2; omega) (Chg.set (.inr (Nat.le_refl _)))
theorem atWb {h h' : AHeap} (c : Keeps h h') : Chg (fun y => wb ≤ y) h h' := Chg.keeps c
theorem WB.put {R : Type} {Q : R → Prop} (B : WB H wb o out) {ys : List UInt8} (hs : 2 * (out.length + ys.length) * 1 ≤ 281474976710656) {f : AHeap → Option R} (J : ∀ o' h2, WB h2 wb o' (out ++ ys) → Chg (fun y => wb ≤ y) H h2 → Gx.Wp (f h2) Q) :
  Gx.Wp ((appendA 1 1 5 H o (ys.map encB) ys.length).bind fun r => (some (⟨wb, 0, none⟩ : Addr)).bind fun p => (st1 (⟨p.block, p.off + 0, none⟩ : Addr) (.slice r.1.a r.1.len r.1.cap) r.2).bind f) Q := by
 obtain ⟨o', h1, a, h2, b, B', c⟩ := B.app hs
 exact .bnd a (.bnd rfl (.bnd b (J o' h2 B' c)))
theorem rdS_bytes {h : AHeap} {n : Nat} {l : List UInt8} (hn : l.length = n) (g : H = h.new (.cells (l.map encB) 5 true 0)) : Gx.rdS 1 ⟨some ⟨h.next, 0, some 0⟩, n, n⟩ H = some (l.map encB) := by
 subst hn; subst g
 have := rdL_all (h := h.new (.cells (l.map encB) 5 true 0)) (b := h.next) (c := l.map encB) (e := 5) (r := true) (fz := 0) (by simp)
 simpa [Gx.rdS] using this
theorem wrap8 (n : Nat) : Value.int .u8 (IntKind.wrap .u8 (n : Int)) = encB (UInt8.ofNat n) := by
 unfold encB
 rw [UInt8.toNat_ofNat', IntKind.wrap_u8]
 rfl
theorem wnumber_spec (B : WB H wb o out) {n : Nat} (hn : n ≤ 3000000) (ho : out.length ≤ 4000000) (hk : 20000 ≤ k) :
  Gx.Wp (lz_writer_number k D (some ⟨wb, 0, none⟩) (n : Int) H) fun z => ∃ o', WB z.2 wb o' (out ++ numB n) ∧ Chg (fun y => wb ≤ y) H z.2 := by
 simp only [lz_writer_number]
 by_cases c : n < 15
 ·refine .ifp (by simp; omega) (.of ⟨o, ?_, Chg.refl _ _⟩)
  rw [numB, if_pos c, List.append_nil]; exact B
 ·refine .ifn (by simp; omega) (Wp.jn fun j4 h4 => ?_)
  rw [show IntKind.wrap .i64 ((n : Int) - 15) = ((n - 15 : Nat) : Int) by rw [Gx.w64 _ (by omega)]; omega]
  unfold lz_writer_number_l0
  obtain ⟨q, eq⟩ : ∃ q, q = (n - 15) / 255 := ⟨_, rfl⟩
  obtain ⟨bot, eb⟩ := iterK_of (fun _ _ _ => none) (lz_writer_number_l0b k D j4) (show q + 1 ≤ k by omega)
  rw [eb, numB, if_neg c]
  have loop : ∀ (d : Nat) (o : Slc) (out : List UInt8) (H1 : AHeap) (m : Nat), m / 255 = d → m ≤ 3000000 → out.length + d ≤ 5000000 → WB H1 wb o out → Chg (fun y => wb ≤ y) H H1 →
    Gx.Wp (iterK bot (d + 1) (lz_writer_number_l0b k D j4) (some ⟨wb, 0, none⟩) (m : Int) H1) fun z => ∃ o', WB z.2 wb o' (out ++ (List.replicate d 255 ++ [UInt8.ofNat (m % 255)])) ∧ Chg (fun y => wb ≤ y) H z.2 := fun d => by
   induction d with
   | zero =>
    intro o out H1 m hd hm hl B cc
    rw [iterK_s]; simp only [lz_writer_number_l0b]
    refine .ifn (by simp; omega) ?_
    rw [h4]
    refine .bnd rfl (.bnd (sldL_at B.g rfl) (Wp.newE fun h7 e7 k7 n7 g7 => ?_))
    rw [wrap8] at e7
    refine .bnd (rdS_bytes (l := [UInt8.ofNat m]) rfl e7) ((B.keeps k7).put (ys := [UInt8.ofNat m]) (by simp; omega) fun o' h2 B' c' => .of ⟨o', ?_, (cc.trans (atWb k7)).trans c'⟩)
    rw [List.replicate_zero, List.nil_append, show m % 255 = m by omega]
    exact B'
   | succ d ih =>
    intro o out H1 m hd hm hl B cc
    rw [iterK_s]; simp only [lz_writer_number_l0b]
    refine .ifp (by simp; omega) (.bnd rfl (.bnd (sldL_at B.g rfl) (Wp.newE fun h7 e7 k7 n7 g7 => ?_)))
    refine .bnd (rdS_bytes (l := [255]) rfl e7) ((B.keeps k7).put (ys := [255]) (by simp; omega) fun o' h2 B' c' => ?_)
    rw [show IntKind.wrap .i64 ((m : Int) - 255) = ((m - 255 : Nat) : Int) by rw [Gx.w64 _ (by omega)]; omega]
    refine .mono (ih o' (out ++ [255]) h2 (m - 255) (by omega) (by omega) (by simp; omega) B' ((cc.trans (atWb k7)).trans c')) fun z ⟨o2, w1, w2⟩ => ⟨o2, ?_, w2⟩
    have e : out ++ [255] ++ (List.replicate d 255 ++ [UInt8.ofNat ((m - 255) % 255)]) = out ++ (List.replicate (d + 1) 255 ++ [UInt8.ofNat (m % 255)]) := by
     rw [show (m - 255) % 255 = m % 255 by omega, List.replicate_succ]
     simp
    rw [← e]
    exact w1
  have := loop q o out H (n - 15) eq.symm (by omega) (by omega) B (Chg.refl _ _)
  rw [← eq]
  exact this
theorem tokOr : ∀ a b : Fin 16, Go.bits .or .i64 (IntKind.wrap .i64 ((a.val : Int) * 16)) (b.val : Int) = ((a.val * 16 + b.val : Nat) : Int) := by decide +kernel
theorem numB_len (n : Nat) : (numB n).length ≤ n + 1 := by
 unfold numB
 split
 ·simp
 ·simp; omega
theorem sequence_spec (B : WB H wb o out) (ls : ByteArray) (hls : ls.size ≤ 1048576) {d n : Nat} (hd : d ≤ 65535) (hn : 4 ≤ n ∨ d = 0) (hn2 : n ≤ 1048576) (ho : out.length ≤ 1500000) (hk : 20000 ≤ k) :
  Gx.Wp (lz_writer_sequence k D (some ⟨wb, 0, none⟩) ls (d : Int) (n : Int) H) fun z => ∃ o', WB z.2 wb o' (out ++ seqB (bl ls) d n) ∧ Chg (fun y => wb ≤ y) H z.2 := by
 simp only [lz_writer_sequence]
 obtain ⟨a, ea⟩ : ∃ a, a = min ls.size 15 := ⟨_, rfl⟩
 have e1 : (if (15 : Int) < (ls.size : Int) then (15 : Int) else (ls.size : Int)) = (a : Int) := by
  by_cases z : 15 < ls.size
  ·rw [if_pos (by omega)]; omega
  ·rw [if_neg (by omega)]; omega
 rw [e1]
 refine Wp.jn fun j8 h8 => ?_
 have J : ∀ t : Int, Value.int .u8 (IntKind.wrap .u8 t) = encB (tokB (bl ls).length d n) → Gx.Wp (j8 (some ⟨wb, 0, none⟩) ls (d : Int) (n : Int) t H) fun z => ∃ o', WB z.2 wb o' (out ++ seqB (bl ls) d n) ∧ Chg (fun y => wb ≤ y) H z.2 := by
  intro t ht
  rw [h8]
  have ll : (bl ls).length = ls.size := bl_length ls
  have lnb := numB_len ls.size
  have lnb2 := numB_len (n - 4)
  refine .bnd rfl (.bnd (sldL_at B.g rfl) (Wp.newE fun h11 e11 k11 n11 g11 => ?_))
  rw [ht] at e11
  refine .bnd (rdS_bytes (l := [tokB (bl ls).length d n]) rfl e11) ((B.keeps k11).put (ys := [tokB (bl ls).length d n]) (by simp; omega) fun o1 h15 B1 c1 => ?_)
  have x1 : Chg (fun y => wb ≤ y) H h15 := (atWb k11).trans c1
  refine .call (wnumber_spec B1 (by omega) (by simp; omega) hk) fun r16 ⟨o2, B2, c2⟩ => ?_
  refine .bnd rfl (.bnd (sldL_at B2.g rfl) ?_)
  rw [bytesL_bl]
  refine B2.put (ys := bl ls) (by simp; omega) fun o3 h21 B3 c3 => ?_
  have x3 : Chg (fun y => wb ≤ y) H h21 := (x1.trans c2).trans c3
  have es : out ++ [tokB (bl ls).length d n] ++ numB ls.size ++ bl ls = out ++ (tokB (bl ls).length d n :: numB (bl ls).length ++ bl ls) := by rw [ll]; simp
  rw [es] at B3
  by_cases c : d = 0
  ·refine .ifn (by simp; omega) (.of ⟨o3, ?_, x3⟩)
   subst c
   unfold seqB
   rw [if_neg (by omega), List.append_nil]
   exact B3
  ·refine .ifp (by simp; omega) (.bnd rfl (.bnd (sldL_at B3.g rfl) (Wp.newE fun h24 e24 k24 n24 g24 => ?_)))
   rw [show Int.fdiv (d : Int) 256 = ((d / 256 : Nat) : Int) by rw [Int.fdiv_eq_ediv_of_nonneg _ (by decide)]; omega, wrap8, wrap8] at e24
   have e25 : UInt8.ofNat d = UInt8.ofNat (d % 256) := by
    apply UInt8.toNat_inj.1
    rw [UInt8.toNat_ofNat', UInt8.toNat_ofNat']; omega
   have lo3 : (out ++ (tokB (bl ls).length d n :: numB (bl ls).length ++ bl ls)).length ≤ out.length + 1 + (ls.size + 1) + ls.size := by
    simp only [List.length_append, List.length_cons]; rw [ll]; omega
   refine .bnd (rdS_bytes (l := [UInt8.ofNat d, UInt8.ofNat (d / 256)]) rfl e24) ((B3.keeps k24).put (ys := [UInt8.ofNat d, UInt8.ofNat (d / 256)]) (by simp only [List.length_cons, List.length_nil]; omega) fun o4 h28 B4 c4 => ?_)
   rw [show IntKind.wrap .i64 ((n : Int) - 4) = ((n - 4 : Nat) : Int) by rw [Gx.w64 _ (by omega)]; omega]
   refine .call (wnumber_spec B4 (by omega) (by rw [List.length_append]; simp only [List.length_cons, List.length_nil]; omega) hk) fun r29 ⟨o5, B5, c5⟩ => .of ⟨o5, ?_, ((x3.trans (atWb k24)).trans c4).trans c5⟩
   unfold seqB
   rw [if_pos (by omega), ← e25]
   have : out ++ (tokB (bl ls).length d n :: numB (bl ls).length ++ bl ls) ++ [UInt8.ofNat d, UInt8.ofNat (d / 256)] ++ numB (n - 4) = out ++ (tokB (bl ls).length d n :: numB (bl ls).length ++ bl ls ++ UInt8.ofNat d :: UInt8.ofNat (d / 256) :: numB (n - 4)) := by simp
   rw [← this]
   exact B5
 have ll : (bl ls).length = ls.size := bl_length ls
 by_cases c : d = 0
 ·refine .ifn (by simp; omega) (J _ ?_)
  have : IntKind.wrap .i64 ((a : Int) * 16) = ((a * 16 : Nat) : Int) := by rw [Gx.w64 _ (by omega)]; omega
  rw [this, wrap8]
  unfold tokB
  rw [ll, if_neg (by omega), ea]; rfl
 ·refine .ifp (by simp; omega) ?_
  obtain ⟨b, eb⟩ : ∃ b, b = min (n - 4) 15 := ⟨_, rfl⟩
  have hn' := hn.resolve_right c
  have e2 : (if (15 : Int) < IntKind.wrap .i64 ((n : Int) - 4) then (15 : Int) else IntKind.wrap .i64 ((n : Int) - 4)) = (b : Int) := by
   rw [Gx.w64 _ (by omega)]
   by_cases z : 15 < n - 4
   ·rw [if_pos (by omega)]; omega
   ·rw [if_neg (by omega)]; omega
  simp only [e2]
  refine J _ ?_
  have eo : Go.bits .or .i64 (IntKind.wrap .i64 ((a : Int) * 16)) (b : Int) = ((a * 16 + b : Nat) : Int) := tokOr ⟨a, by omega⟩ ⟨b, by omega⟩
  rw [eo, wrap8]
  unfold tokB
  rw [ll, if_pos (by omega), ea, eb]
end
end Ge
namespace Ge
open Go Gx
theorem seqB_len {l : List UInt8} {d n : Nat} (hn : 4 ≤ n) : (seqB l d n).length ≤ 2 * (l.length + n) := by
 have h1 := numB_len l.length
 have h2 := numB_len (n - 4)
 unfold seqB
 split
 ·simp only [List.length_append, List.length_cons]; omega
 ·simp only [List.length_append, List.length_cons, List.length_nil]; omega
structure PK (h0 H : AHeap) (mb pb wb : Nat) (s : ByteArray) (es : List Fr) (o : Slc) (out : List UInt8) : Prop where
 kp : Keeps h0 H
 m : MapAt keyV vI H mb es
 p : H.get pb = some (.cells [.string s, .map (some mb)] 75 true 0)
 W : WB H wb o out
 lm : mb < pb
 lp : pb < wb
 lh : h0.next ≤ mb
 k4 : ∀ e ∈ es, e.1.length = 4
section
variable {k mb pb wb : Nat} {s : ByteArray} {es : List Fr} {o : Slc} {out : List UInt8} {D : CallF} {h0 H H' : AHeap}
theorem PK.keeps (P : PK h0 H mb pb wb s es o out) (c : Keeps H H') : PK h0 H' mb pb wb s es o out :=
 have := P.W.lt; have := P.lm; have := P.lp
 ⟨P.kp.trans c, P.m.chg c (by omega) (fun f => f), c.got (by omega) P.p, P.W.keeps c, P.lm, P.lp, P.lh, P.k4⟩
theorem keepsAll {h0 H H' : AHeap} {n : Nat} (k : Keeps h0 H) (c : Chg (fun y => n ≤ y) H H') (h : h0.next ≤ n) : Keeps h0 H' := k.keepsS c fun y hy => by have hy : n ≤ y := hy; omega
theorem put_loop {Q : (ByteArray × Int) × AHeap → Prop} {rec20 : ByteArray → (Option Addr) → (Option Addr) → Int → Int → AHeap → Option ((ByteArray × Int) × AHeap)} (kept : Int) (step : Nat) (hs : s.size ≤ 1048576) (hst : step ≤ 1048576) (bot) :
  ∀ (d j i : Nat) (es : List Fr) (H : AHeap), j + d = step → i + d ≤ s.size → PK h0 H mb pb wb s es o out → (∀ H', PK h0 H' mb pb wb s (putN (bl s) d i es) o out → Gx.Wp (rec20 s (some ⟨pb, 0, none⟩) (some ⟨wb, 0, none⟩) kept ((i + d : Nat) : Int) H') Q) →
  Gx.Wp (iterK bot (d + 1) (lz_Pack_l1b k D rec20) s (some ⟨pb, 0, none⟩) (some ⟨wb, 0, none⟩) kept (i : Int) (step : Int) (j : Int) H) Q := by
 intro d
 induction d with
 | zero =>
  intro j i es H hd hi P J
  rw [iterK_s]; simp only [lz_Pack_l1b]
  exact .ifn (by simp; omega) (J H P)
 | succ d ih =>
  intro j i es H hd hi P J
  rw [iterK_s]; simp only [lz_Pack_l1b]
  refine .ifp (by simp; omega) (Wp.jn fun j48 h48 => ?_)
  have go : ∀ H', PK h0 H' mb pb wb s (put1 (bl s) i es) o out → Gx.Wp (j48 s (some ⟨pb, 0, none⟩) (some ⟨wb, 0, none⟩) kept (i : Int) (step : Int) (j : Int) H') Q := fun H' P' => by
   rw [h48]
   dsimp only
   rw [Gx.w1 (by omega), Gx.w1 (by omega)]
   refine ih (j + 1) (i + 1) _ H' (by omega) (by omega) P' fun H'' P'' => ?_
   rw [show i + 1 + d = i + (d + 1) by omega]
   exact J H'' P''
  rw [show IntKind.wrap .i64 ((i : Int) + 4) = ((i + 4 : Nat) : Int) by rw [Gx.w64 _ (by omega)]; omega]
  have wl := P.W.lt; have ml := P.lm; have pl := P.lp
  by_cases c : i + 4 ≤ s.size
  ·refine .ifp (by simp; omega) (.call (four_spec D P.p (by omega) c hs) fun r49 ⟨q49, k49⟩ => ?_)
   have P9 := P.keeps k49
   refine .bnd rfl (.bnd (ldM_at P9.p rfl) (.gp (ssw1 (by rw [ldM_at (sp := none) (o := 0 + 1) P.p rfl]; rfl)) (.bnd rfl ?_)))
   rw [q49]
   have l4 := four_len (l := bl s) (i := i) (by rw [bl_length]; omega)
   obtain ⟨h', u1, u2, u3, u4⟩ := P9.m.upd (n := four (bl s) i) (fun e he => keyEq_V (by rw [l4, P.k4 e he])) i
   refine .bnd u1 (go h' ⟨keepsAll P9.kp (u3.wk fun y _ e => (by have e : y = mb := e; omega : mb ≤ y)) P.lh, ?_, u3.got (by have := P9.W.lt; omega) (by omega) P9.p, P9.W.chg u3 fun y e => .inl (by have e : y = mb := e; omega), P.lm, P.lp, P.lh, ?_⟩)
   ·unfold put1
    rw [if_pos (by rw [bl_length]; exact c)]
    exact u2
   ·unfold put1
    rw [if_pos (by rw [bl_length]; exact c)]
    intro e he
    rcases ptM_mem he with ⟨g, _⟩ | g
    ·rw [g]; exact l4
    ·exact P.k4 e g
  ·refine .ifn (by simp; omega) (go H ?_)
   unfold put1
   rw [if_neg (by rw [bl_length]; exact c)]
   exact P
theorem pack_loop {j8 : ByteArray → (Option Addr) → Int → AHeap → Option ((ByteArray × Int) × AHeap)}
  (hj : ∀ kept H o out, kept ≤ s.size → WB H wb o out → out.length ≤ 1000000 → Keeps h0 H → Gx.Wp (j8 s (some ⟨wb, 0, none⟩) (kept : Int) H) fun z => z.1 = (⟨⟨out ++ seqB ((bl s).drop kept) 0 0⟩⟩, 0) ∧ Keeps h0 z.2) (hs : s.size ≤ 500000) (hk : 600000 ≤ k) (bot) :
  ∀ (f i kept : Nat) (es : List Fr) (o : Slc) (out : List UInt8) (H : AHeap), s.size < i + f → i ≤ s.size → kept ≤ i → Ahead i es → out.length ≤ 2 * kept → PK h0 H mb pb wb s es o out →
  Gx.Wp (iterK bot f (lz_Pack_l0b k D j8) s (some ⟨pb, 0, none⟩) (some ⟨wb, 0, none⟩) (kept : Int) (i : Int) H) fun z => z.1 = (⟨⟨packL (bl s) f i kept es out⟩⟩, 0) ∧ Keeps h0 z.2 := by
 intro f
 induction f with
 | zero => intro i kept es o out H h1 h2; omega
 | succ f ih =>
  intro i kept es o out H h1 h2 h3 ha ho P
  rw [iterK_s]; simp only [lz_Pack_l0b]
  have wl := P.W.lt; have ml := P.lm; have pl := P.lp
  have sl : (bl s).length = s.size := bl_length s
  rw [show IntKind.wrap .i64 ((i : Int) + 4) = ((i + 4 : Nat) : Int) by rw [Gx.w64 _ (by omega)]; omega]
  unfold packL
  rw [sl]
  by_cases c : i + 4 < s.size
  rotate_left
  ·rw [if_neg c]
   exact .ifn (by simp; omega) (hj kept H o out (by omega) P.W (by omega) P.kp)
  rw [if_pos c]
  refine .ifp (by simp; omega) (.call (best_spec D P.p (by omega) (by omega) P.m P.k4 ha (by omega) (by omega) (by omega)) fun r21 ⟨q21, k21⟩ => ?_)
  have P1 := P.keeps k21
  rw [q21]
  obtain ⟨m, em⟩ : ∃ m, m = min (bestF (bl s) i es).2 (s.size - 1 - i) := ⟨_, rfl⟩
  rw [← em]
  have et : IntKind.wrap .i64 ((IntKind.wrap .i64 ((s.size : Int) - 1)) - (i : Int)) = ((s.size - 1 - i : Nat) : Int) := by rw [Gx.w64 ((s.size : Int) - 1) (by omega), Gx.w64 _ (by omega)]; omega
  have em2 : (if (((s.size - 1 - i : Nat) : Int)) < ((bestF (bl s) i es).2 : Int) then (((s.size - 1 - i : Nat) : Int)) else ((bestF (bl s) i es).2 : Int)) = (m : Int) := by
   by_cases z : s.size - 1 - i < (bestF (bl s) i es).2
   ·rw [if_pos (by omega)]; omega
   ·rw [if_neg (by omega)]; omega
  simp only [et, em2]
  refine Wp.jn fun j30 h30 => ?_
  have bo := bestF_ok (s := bl s) ha
  by_cases c4 : 4 ≤ m
  ·rw [if_pos c4]
   rcases bo with b | ⟨b1, b2, b3, b4⟩
   ·omega
   refine .ifp (by simp; omega) ?_
   have es1 : Gx.subS s (some (kept : Int)) (some (i : Int)) = some ⟨⟨((bl s).take i).drop kept⟩⟩ := subS_of rfl rfl h3 h2
   have sz1 : (⟨⟨((bl s).take i).drop kept⟩⟩ : ByteArray).size = i - kept := by rw [size_mk]; simp; omega
   refine .bnd es1 (.call (sequence_spec P1.W ⟨⟨((bl s).take i).drop kept⟩⟩ (by omega) b2 (.inl c4) (by omega) (by omega) (by omega)) fun r57 ⟨o', W', c'⟩ => ?_)
   rw [bl_mk] at W'
   have P2 : PK h0 r57.2 mb pb wb s es o' (out ++ seqB (((bl s).take i).drop kept) (bestF (bl s) i es).1 m) :=
    ⟨keepsAll P1.kp c' (by have := P.lh; omega), P1.m.chg c' (by have := P1.W.lt; omega) (by omega), c'.got (by have := P1.W.lt; omega) (by omega) P1.p, W', P.lm, P.lp, P.lh, P.k4⟩
   rw [show IntKind.wrap .i64 ((i : Int) + (m : Int)) = ((i + m : Nat) : Int) by rw [Gx.w64 _ (by omega)]; omega, h30]
   dsimp only
   unfold lz_Pack_l1
   obtain ⟨bot2, eb2⟩ := iterK_of (fun _ _ _ _ _ _ _ _ => none) (lz_Pack_l1b k D (iterK bot f (lz_Pack_l0b k D j8))) (show m + 1 ≤ k by omega)
   rw [eb2]
   have sq := seqB_len (l := ((bl s).take i).drop kept) (d := (bestF (bl s) i es).1) c4
   have sl2 : (((bl s).take i).drop kept).length = i - kept := by simp; omega
   rw [show (0 : Int) = ((0 : Nat) : Int) from rfl]
   refine put_loop _ m (by omega) (by omega) bot2 m 0 i es r57.2 (by omega) (by omega) P2 fun H' P3 => ?_
   exact ih (i + m) (i + m) _ o' _ H' (by omega) (by omega) (Nat.le_refl _) (putN_ahead m i ha) (by rw [List.length_append]; omega) P3
  ·rw [if_neg c4]
   refine .ifn (by simp; omega) ?_
   rw [h30]
   dsimp only
   unfold lz_Pack_l1
   obtain ⟨bot2, eb2⟩ := iterK_of (fun _ _ _ _ _ _ _ _ => none) (lz_Pack_l1b k D (iterK bot f (lz_Pack_l0b k D j8))) (show 1 + 1 ≤ k by omega)
   rw [eb2]
   rw [show (0 : Int) = ((0 : Nat) : Int) from rfl]
   refine put_loop _ 1 (by omega) (by omega) bot2 1 0 i es r21.2 (by omega) (by omega) P1 fun H' P3 => ?_
   exact ih (i + 1) kept _ o _ H' (by omega) (by omega) (by omega) (putN_ahead 1 i ha) ho P3
end
theorem pack_spec {k : Nat} {s : ByteArray} {h : AHeap} (D : CallF) (hs : s.size ≤ 500000) (hk : 600000 ≤ k) :
  Gx.Wp (lz_Pack k D s h) fun z => z.1 = (⟨⟨packA (bl s)⟩⟩, 0) ∧ Keeps h z.2 := by
 simp only [lz_Pack]
 refine .ifn (by simp; omega) (Wp.newE fun h1 e1 k1 n1 g1 => Wp.newE fun h2 e2 k2 n2 g2 => Wp.newE fun h3 e3 k3 n3 g3 => Wp.jn fun j8 h8 => ?_)
 unfold lz_Pack_l0
 obtain ⟨bot, eb⟩ := iterK_of (fun _ _ _ _ _ _ => none) (lz_Pack_l0b k D j8) (show s.size + 1 ≤ k by omega)
 rw [eb]
 have P : PK h h3 h.next h1.next h2.next s [] ⟨none, 0, 0⟩ [] :=
  ⟨(k1.trans k2).trans k3, Keeps.got (k2.trans k3) (by omega) g1, k3.got (by omega) g2, ⟨g3, Acc.nil _ _ _ _, by omega⟩, by omega, by omega, Nat.le_refl _, fun e he => by cases he⟩
 refine .mono (pack_loop ?_ hs hk bot (s.size + 1) 0 0 [] ⟨none, 0, 0⟩ [] h3 (by omega) (by omega) (by omega) (fun e he => by cases he) (by simp) P) fun z ⟨w1, w2⟩ => ⟨?_, w2⟩
 ·intro kept H o out hkept B hl kp
  rw [h8]
  have es1 : Gx.subS s (some (kept : Int)) none = some ⟨⟨((bl s).take s.size).drop kept⟩⟩ := subS_of rfl rfl hkept (Nat.le_refl _)
  rw [List.take_of_length_le (by rw [bl_length]; exact Nat.le_refl _)] at es1
  have sz1 : (⟨⟨(bl s).drop kept⟩⟩ : ByteArray).size ≤ s.size := by rw [size_mk, List.length_drop, bl_length]; omega
  refine .bnd es1 (.call (sequence_spec (d := 0) (n := 0) B ⟨⟨(bl s).drop kept⟩⟩ (by omega) (by omega) (.inr rfl) (by omega) (by omega) (by omega)) fun r10 ⟨o', B', c'⟩ => ?_)
  exact .bnd rfl (.bnd (sldL_at B'.g rfl) (.bnd (acc_bytes B'.A) (.of ⟨rfl, keepsAll kp c' (by omega)⟩)))
 ·rw [w1, packA, bl_length]
end Ge
namespace Ge.B
open Go Gx Go.Proofs
theorem rot_spec (k0 : Nat) (D : CallF) (x : UInt32) (h : AHeap) {q : Int} (n : Nat) (hn : 0 < n ∧ n < 32) (hq : Go.bits .and .u64 (IntKind.wrap .u64 q) 31 = ((32 - n : Nat) : Int)) : math_bits_RotateLeft32 k0 D (x.toNat : Int) q h = some (((rotr x n).toNat : Int), h) := by
 simp only [math_bits_RotateLeft32, hq]
 rw [if_pos (by omega)]
 have e2 : IntKind.wrap .u64 (32 - ((32 - n : Nat) : Int)) = ((n : Nat) : Int) := by
  rw [show (32 : Int) - ((32 - n : Nat) : Int) = (n : Int) by omega]
  exact wr_u64 _ (by omega) (by omega)
 rw [e2, if_pos (by omega), Int.toNat_natCast, Int.toNat_natCast]
 have m1 : min (32 - n) (IntKind.bits .u32) = 32 - n := Nat.min_eq_left (by show 32 - n ≤ 32; omega)
 have m2 : min n (IntKind.bits .u32) = n := Nat.min_eq_left (by show n ≤ 32; omega)
 rw [m1, m2]
 have p1 : (2 : Int) ^ (32 - n) = ((2 ^ (32 - n) : Nat) : Int) := by simp
 have p2 : (2 : Int) ^ n = ((2 ^ n : Nat) : Int) := by simp
 rw [p1, p2, shlU x (32 - n) (by omega), shrU x n (by omega), orU]
 rfl
theorem sp_l1 (K : Nat) (D : CallF) (j) (bot) {Q : List Value × AHeap → Prop} {h0 : AHeap} {b : Slc} {blk : List UInt8} (R : Row encB h0 b blk) (hl : blk.length = 64) {wb : Nat} (hwb : h0.next ≤ wb) {f : Nat → UInt32} (hf : ∀ i, i < 16 → f i = wAt blk i)
  (hj : ∀ h, Keeps h0 h → h.get wb = some (.cells (filU f 64 16) 174 true 0) → Wp (j (some ⟨wb, 0, none⟩) h) Q) :
  ∀ (d i : Nat) (h : AHeap), i + d = 16 → Keeps h0 h → h.get wb = some (.cells (filU f 64 i) 174 true 0) → Wp (iterK bot (d + 1) (sha_spread_l1b K D j) b (some ⟨wb, 0, none⟩) (i : Int) h) Q
 | 0, i, h, hi, kp, hb => by
  obtain rfl : i = 16 := by omega
  rw [iterK_s]; simp only [sha_spread_l1b]
  exact Wp.ifn (by simp) (hj h kp hb)
 | d + 1, i, h, hi, kp, hb => by
  rw [iterK_s]; simp only [sha_spread_l1b]
  refine Wp.ifp (by simp; omega) ?_
  obtain ⟨x0, g0⟩ := isome (l := blk) (i := 4 * i) (by omega)
  obtain ⟨x1, g1⟩ := isome (l := blk) (i := 4 * i + 1) (by omega)
  obtain ⟨x2, g2⟩ := isome (l := blk) (i := 4 * i + 2) (by omega)
  obtain ⟨x3, g3⟩ := isome (l := blk) (i := 4 * i + 3) (by omega)
  have R' := R.keeps kp
  obtain ⟨q0, a0, c0⟩ := R'.ldB g0
  obtain ⟨q1, a1, c1⟩ := R'.ldB g1
  obtain ⟨q2, a2, c2⟩ := R'.ldB g2
  obtain ⟨q3, a3, c3⟩ := R'.ldB g3
  have e0 : IntKind.wrap .i64 (4 * (i : Int)) = ((4 * i : Nat) : Int) := sw64 (by omega) (by omega)
  have e1 : IntKind.wrap .i64 (((4 * i : Nat) : Int) + 1) = ((4 * i + 1 : Nat) : Int) := sw64 (by omega) (by omega)
  have e2 : IntKind.wrap .i64 (((4 * i : Nat) : Int) + 2) = ((4 * i + 2 : Nat) : Int) := sw64 (by omega) (by omega)
  have e3 : IntKind.wrap .i64 (((4 * i : Nat) : Int) + 3) = ((4 * i + 3 : Nat) : Int) := sw64 (by omega) (by omega)
  rw [e0, e1, e2, e3]
  refine Wp.bnd a0 (Wp.bnd c0 (Wp.bnd a1 (Wp.bnd c1 (Wp.bnd a2 (Wp.bnd c2 (Wp.bnd a3 (Wp.bnd c3 (Wp.bnd rfl (Wp.bnd (sidxA (by omega)) ?_)))))))))
  rw [or_bytes]
  have ev : be32 x0 x1 x2 x3 = f i := by rw [hf i (by omega)]; unfold wAt; rw [g0, g1, g2, g3]; rfl
  rw [ev]
  have hst : st1 ⟨wb, i, none⟩ (.int .u32 ((f i).toNat : Int)) h = some (h.set wb (.cells (filU f 64 (i + 1)) 174 true 0)) := by
   rw [st1_of hb (by rw [filU_length (by omega)]; omega) rfl, filU_set (by omega)]
  refine Wp.bnd hst ?_
  rw [Gx.w1 (by omega)]
  exact sp_l1 K D j bot R hl hwb hf hj d (i + 1) _ (by omega) (kp.set hwb) (sset_get _ _ _)
theorem sp_l0 (K : Nat) (D : CallF) (j) (bot) {Q : List Value × AHeap → Prop} {h0 : AHeap} {wb : Nat} (hwb : h0.next ≤ wb) {m : Nat → UInt32}
  (hj : ∀ h, Keeps h0 h → h.get wb = some (.cells (filU (sched m) 64 64) 174 true 0) → Wp (j (some ⟨wb, 0, none⟩) h) Q) :
  ∀ (d i : Nat) (h : AHeap), i + d = 64 → 16 ≤ i → Keeps h0 h → h.get wb = some (.cells (filU (sched m) 64 i) 174 true 0) → Wp (iterK bot (d + 1) (sha_spread_l0b K D j) (some ⟨wb, 0, none⟩) (i : Int) h) Q
 | 0, i, h, hi, h16, kp, hb => by
  obtain rfl : i = 64 := by omega
  rw [iterK_s]; simp only [sha_spread_l0b]
  exact Wp.ifn (by simp) (hj h kp hb)
 | d + 1, i, h, hi, h16, kp, hb => by
  rw [iterK_s]; simp only [sha_spread_l0b]
  refine Wp.ifp (by simp; omega) ?_
  have e15 : IntKind.wrap .i64 ((i : Int) - 15) = ((i - 15 : Nat) : Int) := sw64 (by omega) (by omega)
  have e2 : IntKind.wrap .i64 ((i : Int) - 2) = ((i - 2 : Nat) : Int) := sw64 (by omega) (by omega)
  have e16 : IntKind.wrap .i64 ((i : Int) - 16) = ((i - 16 : Nat) : Int) := sw64 (by omega) (by omega)
  have e7 : IntKind.wrap .i64 ((i : Int) - 7) = ((i - 7 : Nat) : Int) := sw64 (by omega) (by omega)
  rw [e15, e2, e16, e7]
  have ld : ∀ jj, jj < i → ldI .u32 ⟨wb, jj, none⟩ h = some ((sched m jj).toNat : Int) := fun jj hjj => sldI_at hb (filU_get hjj)
  refine Wp.bnd rfl (Wp.bnd (sidxA (by omega)) (Wp.bnd (ld _ (by omega)) (Wp.bnd rfl (Wp.bnd (sidxA (by omega)) (Wp.bnd (ld _ (by omega)) ?_)))))
  refine Wp.bnd (rot_spec K D _ h 7 (by decide) (by decide)) (Wp.bnd (rot_spec K D _ h 18 (by decide) (by decide)) (Wp.bnd (rot_spec K D _ h 17 (by decide) (by decide)) (Wp.bnd (rot_spec K D _ h 19 (by decide) (by decide)) ?_)))
  refine Wp.bnd rfl (Wp.bnd (sidxA (by omega)) (Wp.bnd (ld _ (by omega)) (Wp.bnd rfl (Wp.bnd (sidxA (by omega)) (Wp.bnd (ld _ (by omega)) (Wp.bnd rfl (Wp.bnd (sidxA (by omega)) ?_)))))))
  have s3 : Int.fdiv ((sched m (i - 15)).toNat : Int) 8 = ((sched m (i - 15) >>> 3).toNat : Int) := shrU _ 3 (by decide)
  have s10 : Int.fdiv ((sched m (i - 2)).toNat : Int) 1024 = ((sched m (i - 2) >>> 10).toNat : Int) := shrU _ 10 (by decide)
  simp only [s3, s10, xorU, addU]
  have ev : sched m (i - 16) + (rotr (sched m (i - 15)) 7 ^^^ rotr (sched m (i - 15)) 18 ^^^ sched m (i - 15) >>> 3) + sched m (i - 7) + (rotr (sched m (i - 2)) 17 ^^^ rotr (sched m (i - 2)) 19 ^^^ sched m (i - 2) >>> 10) = sched m i := (sched_hi h16).symm
  rw [ev]
  have hst : st1 ⟨wb, i, none⟩ (.int .u32 ((sched m i).toNat : Int)) h = some (h.set wb (.cells (filU (sched m) 64 (i + 1)) 174 true 0)) := by
   rw [st1_of hb (by rw [filU_length (by omega)]; omega) rfl, filU_set (by omega)]
  refine Wp.bnd hst ?_
  rw [Gx.w1 (by omega)]
  exact sp_l0 K D j bot hwb hj d (i + 1) _ (by omega) (by omega) (kp.set hwb) (sset_get _ _ _)
theorem spread_spec {k0 : Nat} (hk : 100 ≤ k0) (D : CallF) {h : AHeap} {b : Slc} {blk : List UInt8} (R : Row encB h b blk) (hl : blk.length = 64) :
  Wp (sha_spread k0 D b h) fun r => r.1 = (List.range 64).map (fun i => encU (sched (wAt blk) i)) ∧ Keeps h r.2 := by
 simp only [sha_spread]
 let h1 := h.new (.cells (List.replicate 64 (.int .u32 0)) 174 true 0)
 have k1 : Keeps h h1 := Keeps.new h _
 have g1 : h1.get h.next = some (.cells (filU (sched (wAt blk)) 64 0) 174 true 0) := by rw [filU_zero]; simp [h1]
 refine Wp.jn fun j1 hj1 => ?_
 unfold sha_spread_l1
 obtain ⟨bot1, e1⟩ := iterK_of (fun _ _ _ _ => none) (sha_spread_l1b k0 D j1) (show 16 + 1 ≤ k0 by omega)
 rw [e1]
 refine sp_l1 k0 D j1 bot1 R hl (Nat.le_refl _) (f := sched (wAt blk)) (fun i hi => sched_lo hi) ?_ 16 0 h1 (by omega) k1 g1
 intro h2 k2 g2
 subst hj1
 refine Wp.jn fun j2 hj2 => ?_
 unfold sha_spread_l0
 obtain ⟨bot2, e2⟩ := iterK_of (fun _ _ _ => none) (sha_spread_l0b k0 D j2) (show 48 + 1 ≤ k0 by omega)
 rw [e2]
 refine sp_l0 k0 D j2 bot2 (Nat.le_refl _) ?_ 48 16 h2 (by omega) (by omega) k2 g2
 intro h3 k3 g3
 subst hj2
 rw [filU_all] at g3
 obtain ⟨L, hL⟩ : ∃ L, L = (List.range 64).map fun i => encU (sched (wAt blk) i) := ⟨_, rfl⟩
 rw [← hL] at g3 ⊢
 have hlen : L.length = 64 := by rw [hL]; simp
 have l3 := sldA_at (sp := none) g3 hlen
 have s3 := sstL_at (sp := none) g3 hlen hlen (by rw [hL]; exact allOne_U _ _) (by decide)
 have l4 := sldA_at (sp := none) (sset_get h3 h.next (.cells L 174 true 0)) hlen
 have hd : decA 64 (.agg ⟨L⟩) = some L := by
  show (bif Nat.beq L.length 64 then some L else none) = some L
  rw [hlen]; rfl
 exact Wp.bnd rfl (Wp.bnd l3 (Wp.bnd rfl (Wp.bnd s3 (Wp.bnd rfl (Wp.bnd l4 (Wp.bnd hd (Wp.of ⟨rfl, k3.set (Nat.le_refl _)⟩)))))))
end Ge.B
namespace Ge.B
open Go Gx Go.Proofs
structure HS (h : AHeap) (hb : Nat) (s : St) (r : Slc) (long : Int) : Prop where
 blk : h.get hb = some (.cells (hcells (wl s) r long) 150 true 0)
 lt : hb < h.next
theorem HS.chg {S : Nat → Prop} {h h' : AHeap} {hb : Nat} {s : St} {r : Slc} {long : Int} (H : HS h hb s r long) (c : Chg S h h') (hs : ¬ S hb) : HS h' hb s r long := ⟨(c.oth hb H.lt hs).trans H.blk, Nat.lt_of_lt_of_le H.lt c.nx⟩
theorem HS.keeps {h h' : AHeap} {hb : Nat} {s : St} {r : Slc} {long : Int} (H : HS h hb s r long) (c : Keeps h h') : HS h' hb s r long := H.chg c fun f => f
theorem tk_l1 (K : Nat) (D : CallF) (j) (bot) {Q : Unit × AHeap → Prop} {h0 : AHeap} (kg : KG 0 h0) {wb : Nat} {m : Nat → UInt32} (hw : h0.get wb = some (.cells ((List.range 64).map fun i => encU (m i)) 174 true 0)) (hv : Option Addr) (s : St)
  (hj : ∀ t : St, t = rounds kAt m 64 s → Wp (j hv (t.a.toNat : Int) (t.b.toNat : Int) (t.c.toNat : Int) (t.d.toNat : Int) (t.e.toNat : Int) (t.f.toNat : Int) (t.g.toNat : Int) (t.h.toNat : Int) h0) Q) :
  ∀ (d i : Nat) (t : St), i + d = 64 → t = rounds kAt m i s →
   Wp (iterK bot (d + 1) (sha_Hash_take_l1b K D j) hv (some ⟨wb, 0, none⟩) (t.a.toNat : Int) (t.b.toNat : Int) (t.c.toNat : Int) (t.d.toNat : Int) (t.e.toNat : Int) (t.f.toNat : Int) (t.g.toNat : Int) (t.h.toNat : Int) (i : Int) h0) Q
 | 0, i, t, hi, ht => by
  obtain rfl : i = 64 := by omega
  rw [iterK_s]; simp only [sha_Hash_take_l1b]
  exact Wp.ifn (by simp) (hj t ht)
 | d + 1, i, t, hi, ht => by
  rw [iterK_s]; simp only [sha_Hash_take_l1b]
  refine Wp.ifp (by simp; omega) ?_
  refine Wp.bnd (rot_spec K D _ h0 6 (by decide) (by decide)) (Wp.bnd (rot_spec K D _ h0 11 (by decide) (by decide)) (Wp.bnd (rot_spec K D _ h0 25 (by decide) (by decide)) ?_))
  have lw : ldI .u32 ⟨wb, i, none⟩ h0 = some ((m i).toNat : Int) := sldI_at hw (by rw [List.getElem?_map, List.getElem?_range (by omega)]; rfl)
  refine Wp.bnd (sidxA (by omega)) (Wp.bnd (kg.ld (by omega)) (Wp.bnd rfl (Wp.bnd (sidxA (by omega)) (Wp.bnd lw ?_))))
  refine Wp.bnd (rot_spec K D _ h0 2 (by decide) (by decide)) (Wp.bnd (rot_spec K D _ h0 13 (by decide) (by decide)) (Wp.bnd (rot_spec K D _ h0 22 (by decide) (by decide)) ?_))
  simp only [xorU, andU, notU, addU]
  rw [Gx.w1 (by omega)]
  exact tk_l1 K D j bot kg hw hv s hj d (i + 1) (rnd (kAt i) (m i) t) (by omega) (by rw [ht]; rfl)
theorem tk_l0 (K : Nat) (D : CallF) (bot) {h0 : AHeap} {hb : Nat} {s t : St} {r : Slc} {long : Int} (hlt : hb < h0.next) :
  ∀ (d i : Nat) (h : AHeap) (l : List UInt32), i + d = 8 → l.length = 8 → (∀ j x y, j < i → (wl s)[j]? = some x → (wl t)[j]? = some y → l[j]? = some (x + y)) → (∀ j, i ≤ j → l[j]? = (wl s)[j]?) → h.get hb = some (.cells (hcells l r long) 150 true 0) → Chg (fun x => x = hb) h0 h →
   Wp (iterK bot (d + 1) (sha_Hash_take_l0b K D) (some ⟨hb, 0, none⟩) ((t.a.toNat : Int), (t.b.toNat : Int), (t.c.toNat : Int), (t.d.toNat : Int), (t.e.toNat : Int), (t.f.toNat : Int), (t.g.toNat : Int), (t.h.toNat : Int)) (i : Int) h) fun q => HS q.2 hb (addSt s t) r long ∧ Chg (fun x => x = hb) h0 q.2
 | 0, i, h, l, hi, hl, l1, l2, hg, c => by
  obtain rfl : i = 8 := by omega
  rw [iterK_s]; simp only [sha_Hash_take_l0b]
  refine Wp.ifn (by simp) (Wp.of ⟨⟨?_, Nat.lt_of_lt_of_le hlt c.nx⟩, c⟩)
  have e : l = wl (addSt s t) := by
   apply List.ext_getElem?
   intro j
   by_cases hj : j < 8
   ·obtain ⟨x, hx⟩ := isome (l := wl s) (i := j) hj
    obtain ⟨y, hy⟩ := isome (l := wl t) (i := j) hj
    rw [l1 j x y hj hx hy]
    match j, hj with
    | 0, _ => cases hx; cases hy; rfl
    | 1, _ => cases hx; cases hy; rfl
    | 2, _ => cases hx; cases hy; rfl
    | 3, _ => cases hx; cases hy; rfl
    | 4, _ => cases hx; cases hy; rfl
    | 5, _ => cases hx; cases hy; rfl
    | 6, _ => cases hx; cases hy; rfl
    | 7, _ => cases hx; cases hy; rfl
    | n + 8, h => omega
   ·rw [List.getElem?_eq_none (by omega), List.getElem?_eq_none (by rw [wl_length]; omega)]
  rw [e] at hg
  exact hg
 | d + 1, i, h, l, hi, hl, l1, l2, hg, c => by
  rw [iterK_s]; simp only [sha_Hash_take_l0b]
  refine Wp.ifp (by simp; omega) ?_
  refine Wp.ifp (by omega) ?_
  obtain ⟨x, hx⟩ := isome (l := wl s) (i := i) (by rw [wl_length]; omega)
  obtain ⟨y, hy⟩ := isome (l := wl t) (i := i) (by rw [wl_length]; omega)
  have hly : ((wl t).map encU)[((i : Int)).toNat * 1]? = some (.int .u32 (y.toNat : Int)) := by
   rw [Int.toNat_natCast, Nat.mul_one, List.getElem?_map, hy]; rfl
  refine Wp.bnd hly (Wp.bnd rfl (Wp.bnd rfl ?_))
  have hlx : l[i]? = some x := by rw [l2 i (Nat.le_refl _), hx]
  refine Wp.bnd (sidxA (by omega)) (Wp.bnd (sldI_at hg (hcells_word hlx)) (Wp.bnd rfl (Wp.bnd (sidxA (by omega)) ?_)))
  rw [addU]
  have hst : st1 ⟨hb, i, none⟩ (.int .u32 ((x + y).toNat : Int)) h = some (h.set hb (.cells (hcells (l.set i (x + y)) r long) 150 true 0)) := by
   rw [st1_of hg (by rw [hcells_length hl]; omega) rfl, hcells_set _ (by omega)]
  refine Wp.bnd hst ?_
  rw [Gx.w1 (by omega)]
  refine tk_l0 K D bot hlt d (i + 1) _ (l.set i (x + y)) (by omega) (by simpa using hl) (fun j x' y' hj hx' hy' => ?_) (fun j hj => ?_) (sset_get _ _ _) (c.trans (Chg.set (.inr rfl)))
  ·by_cases e : j = i
   ·subst e
    rw [hx] at hx'; rw [hy] at hy'
    cases hx'; cases hy'
    rw [List.getElem?_set_self (by omega)]
   ·rw [List.getElem?_set_ne (fun q => e q.symm)]
    exact l1 j x' y' (by omega) hx' hy'
  ·rw [List.getElem?_set_ne (by omega)]
   exact l2 j (by omega)
theorem take_spec {k0 : Nat} (hk : 100 ≤ k0) (D : CallF) {h : AHeap} {hb : Nat} {s : St} {r : Slc} {long : Int} (H : HS h hb s r long) (kg : KG 0 h) {b : Slc} {blk : List UInt8} (R : Row encB h b blk) (hl : blk.length = 64) :
  Wp (sha_Hash_take k0 D (some ⟨hb, 0, none⟩) b h) fun q => HS q.2 hb (comp s blk) r long ∧ Chg (fun x => x = hb) h q.2 := by
 simp only [sha_Hash_take]
 refine Wp.call (spread_spec hk D R hl) fun a ⟨ha, ka⟩ => ?_
 obtain ⟨L, h1⟩ := a
 simp only at ha ka ⊢
 subst ha
 let h2 := h1.new (.cells (List.replicate 64 (.int .u32 0)) 174 true 0)
 have g2 : h2.get h1.next = some (.cells (List.replicate 64 (.int .u32 0)) 174 true 0) := by simp [h2]
 have s3 := sstL_at (sp := none) g2 (by simp) (show ((List.range 64).map fun i => encU (sched (wAt blk) i)).length = 64 by simp) (allOne_U _ _) (by decide)
 refine Wp.bnd s3 ?_
 obtain ⟨h3, e3⟩ : ∃ h3, h3 = h2.set h1.next (.cells ((List.range 64).map fun i => encU (sched (wAt blk) i)) 174 true 0) := ⟨_, rfl⟩
 rw [← e3]
 have k3 : Keeps h h3 := by
  rw [e3]
  exact Keeps.set (ka.trans (Keeps.new h1 _)) ka.nx
 have g3 : h3.get h1.next = some (.cells ((List.range 64).map fun i => encU (sched (wAt blk) i)) 174 true 0) := by rw [e3]; exact sset_get _ _ _
 have H3 := H.keeps k3
 have ld : ∀ {i : Nat} {x : UInt32}, (wl s)[i]? = some x → ldI .u32 ⟨hb, i, none⟩ h3 = some (x.toNat : Int) := fun hx => sldI_at H3.blk (hcells_word hx)
 refine Wp.bnd rfl (Wp.bnd (ld (i := 0) rfl) (Wp.bnd rfl (Wp.bnd (ld (i := 1) rfl) (Wp.bnd rfl (Wp.bnd (ld (i := 2) rfl) (Wp.bnd rfl (Wp.bnd (ld (i := 3) rfl) (Wp.bnd rfl (Wp.bnd (ld (i := 4) rfl) (Wp.bnd rfl (Wp.bnd (ld (i := 5) rfl) (Wp.bnd rfl (Wp.bnd (ld (i := 6) rfl) (Wp.bnd rfl (Wp.bnd (ld (i := 7) rfl) ?_)))))))))))))))
 refine Wp.jn fun j1 hj1 => ?_
 unfold sha_Hash_take_l1
 obtain ⟨bot1, e1⟩ := iterK_of (fun _ _ _ _ _ _ _ _ _ _ _ _ => none) (sha_Hash_take_l1b k0 D j1) (show 64 + 1 ≤ k0 by omega)
 rw [e1]
 refine tk_l1 k0 D j1 bot1 (kg.chg k3 fun f => f) g3 (some ⟨hb, 0, none⟩) s ?_ 64 0 s (by omega) rfl
 intro t ht
 subst hj1
 dsimp only
 unfold sha_Hash_take_l0
 obtain ⟨bot2, e2⟩ := iterK_of (fun _ _ _ _ => none) (sha_Hash_take_l0b k0 D) (show 8 + 1 ≤ k0 by omega)
 rw [e2]
 refine (tk_l0 k0 D bot2 (h0 := h3) (s := s) (t := t) (r := r) (long := long) H3.lt 8 0 h3 (wl s) (by omega) rfl (fun j x y hj => by omega) (fun j _ => rfl) H3.blk (Chg.refl _ _)).mono ?_
 rintro q ⟨q1, q2⟩
 refine ⟨?_, (k3.keeps).trans q2⟩
 unfold comp
 rw [← ht]; exact q1
end Ge.B
namespace Ge.B
open Go Gx Go.Proofs
structure Hash (n0 : Nat) (h : AHeap) (hb : Nat) (s : St) (rest : List UInt8) (long : Nat) : Prop where
 ok : ∃ r, HS h hb s r (long : Int) ∧ Acc encB 5 n0 h r rest ∧ ∀ a, r.a = some a → a.block ≠ hb
 le : n0 ≤ hb
theorem Hash.keeps {n0 : Nat} {h h' : AHeap} {hb : Nat} {s : St} {rest : List UInt8} {long : Nat} (H : Hash n0 h hb s rest long) (c : Keeps h h') : Hash n0 h' hb s rest long := by
 obtain ⟨r, h1, h2, h3⟩ := H.ok
 exact ⟨⟨r, h1.keeps c, h2.keeps c, h3⟩, H.le⟩
theorem Hash.lt {n0 : Nat} {h : AHeap} {hb : Nat} {s : St} {rest : List UInt8} {long : Nat} (H : Hash n0 h hb s rest long) : hb < h.next := by
 obtain ⟨r, h1, _⟩ := H.ok
 exact h1.lt
theorem hcells_rest {l : List UInt32} {r : Slc} {long : Int} (h : l.length = 8) : (hcells l r long)[8]? = some (.slice r.a r.len r.cap) := by
 unfold hcells
 rw [List.getElem?_append_right (by simp [h]), List.length_map, h]; rfl
theorem hcells_long {l : List UInt32} {r : Slc} {long : Int} (h : l.length = 8) : (hcells l r long)[9]? = some (.int .i64 long) := by
 unfold hcells
 rw [List.getElem?_append_right (by simp [h]), List.length_map, h]; rfl
theorem hcells_setR {l : List UInt32} {r r' : Slc} {long : Int} (h : l.length = 8) : (hcells l r long).set 8 (.slice r'.a r'.len r'.cap) = hcells l r' long := by
 unfold hcells
 rw [List.set_append_right _ _ (by simp [h]), List.length_map, h]; rfl
theorem hcells_setL {l : List UInt32} {r : Slc} {long long' : Int} (h : l.length = 8) : (hcells l r long).set 9 (.int .i64 long') = hcells l r long' := by
 unfold hcells
 rw [List.set_append_right _ _ (by simp [h]), List.length_map, h]; rfl
theorem HS.setR {h : AHeap} {hb : Nat} {s : St} {r : Slc} {long : Int} (H : HS h hb s r long) (r' : Slc) : st1 ⟨hb, 8, none⟩ (.slice r'.a r'.len r'.cap) h = some (h.set hb (.cells (hcells (wl s) r' long) 150 true 0)) ∧ HS (h.set hb (.cells (hcells (wl s) r' long) 150 true 0)) hb s r' long := by
 refine ⟨?_, sset_get _ _ _, by simpa using H.lt⟩
 rw [st1_of H.blk (by rw [hcells_length (wl_length s)]; decide) rfl, hcells_setR (wl_length s)]
theorem HS.setL {h : AHeap} {hb : Nat} {s : St} {r : Slc} {long : Int} (H : HS h hb s r long) (long' : Int) : st1 ⟨hb, 9, none⟩ (.int .i64 long') h = some (h.set hb (.cells (hcells (wl s) r long') 150 true 0)) ∧ HS (h.set hb (.cells (hcells (wl s) r long') 150 true 0)) hb s r long' := by
 refine ⟨?_, sset_get _ _ _, by simpa using H.lt⟩
 rw [st1_of H.blk (by rw [hcells_length (wl_length s)]; decide) rfl, hcells_setL (wl_length s)]
theorem acc_sub {n0 : Nat} {h : AHeap} {r : Slc} {l : List UInt8} (A : Acc encB 5 n0 h r l) {i j : Nat} (hij : i ≤ j) (hj : j ≤ l.length) (hi : Option Int) (hhi : hi = some (j : Int) ∨ (hi = none ∧ j = l.length)) :
  ∃ t, Gx.subL 1 r (some (i : Int)) hi none = some t ∧ Row encB h t ((l.take j).drop i) ∧ t.len = j - i := by
 have hlen := A.row.1
 rcases A.st with ⟨rfl, rfl⟩ | ⟨b, g⟩
 ·simp at hj
  subst hj
  obtain rfl : i = 0 := by omega
  refine ⟨⟨none, 0, 0⟩, ?_, Row.nil _ _ _ _, rfl⟩
  rcases hhi with rfl | ⟨rfl, _⟩ <;> rfl
 ·have hg := g.s
  subst hg
  have hb := A.lt ⟨b, 0, some 2⟩ rfl
  have hhv : hi.getD ((l.length : Nat) : Int) = (j : Int) := by
   rcases hhi with rfl | ⟨rfl, e⟩
   ·rfl
   ·rw [e]; rfl
  refine ⟨⟨some ⟨b, if (l.length : Int) = (i : Int) then 0 else i, some 2⟩, j - i, l.length - i⟩, ?_, ⟨?_, fun k x hx => ?_⟩, rfl⟩
  ·simp only [Gx.subL, Option.getD_none, Option.getD_some, hhv]
   rw [if_pos (by omega), if_pos (by rfl)]
   rw [show ((j : Int) - (i : Int)).toNat = j - i by omega, show ((l.length : Int) - (i : Int)).toNat = l.length - i by omega]
   simp
  ·rw [List.length_drop, List.length_take]; show j - i = min j l.length - i; omega
  ·rw [List.getElem?_drop, List.getElem?_take] at hx
   split at hx
   ·have hlt := (List.getElem?_eq_some_iff.1 hx).1
    refine ⟨_, _, _, _, _, rfl, hb.1, g.blk, ?_⟩
    simp only
    rw [if_neg (by omega), List.getElem?_map, hx]; rfl
   ·cases hx
theorem wr_l0 {k0 : Nat} (hk : 100 ≤ k0) (D : CallF) (j) (bot) {Q : Unit × AHeap → Prop} {n0 hb : Nat} (hn : 0 < n0) (hle : n0 ≤ hb) {long : Int} {r : Slc} {l : List UInt8} (hl : l.length ≤ 140737488355328) (hr : ∀ a, r.a = some a → a.block ≠ hb) {s0 : St}
  {h0 : AHeap} (hj : ∀ h i, Chg (fun x => n0 ≤ x) h0 h → KG 0 h → HS h hb (absorb s0 l) r long → Acc encB 5 n0 h r l → i = 64 * (l.length / 64) → Wp (j (some ⟨hb, 0, none⟩) (i : Int) h) Q) :
  ∀ (d : Nat) (i : Nat) (s : St) (h : AHeap), l.length - i < 64 * (d + 1) → i ≤ l.length → i % 64 = 0 → absorb s (l.drop i) = absorb s0 l → Chg (fun x => n0 ≤ x) h0 h → KG 0 h → HS h hb s r long → Acc encB 5 n0 h r l →
   Wp (iterK bot (d + 1) (sha_Hash_Write_l0b k0 D j) (some ⟨hb, 0, none⟩) (i : Int) h) Q
 | d, i, s, h, hd, hi, h6, ha, c, kg, H, A => by
  rw [iterK_s]; simp only [sha_Hash_Write_l0b]
  refine Wp.bnd rfl (Wp.bnd (sldL_at H.blk (hcells_rest (wl_length s))) ?_)
  have hlen : r.len = l.length := A.row.1
  simp only
  rw [hlen, w64 _ (by omega)]
  by_cases c1 : 64 ≤ l.length - i
  ·refine Wp.ifp (by simp; omega) ?_
   obtain ⟨d', rfl⟩ : ∃ d', d = d' + 1 := ⟨d - 1, by omega⟩
   refine Wp.bnd rfl (Wp.bnd (sldL_at H.blk (hcells_rest (wl_length s))) ?_)
   have e64 : IntKind.wrap .i64 ((i : Int) + 64) = ((i + 64 : Nat) : Int) := sw64 (by omega) (by omega)
   rw [e64]
   obtain ⟨t, e1, R, tl⟩ := acc_sub A (i := i) (j := i + 64) (by omega) (by omega) (some ((i + 64 : Nat) : Int)) (.inl rfl)
   have e1' : Gx.subL 1 ⟨r.a, l.length, r.cap⟩ (some (i : Int)) (some ((i + 64 : Nat) : Int)) none = some t := by
    rw [← hlen]; exact e1
   refine Wp.bnd e1' ?_
   have hblk : ((l.take (i + 64)).drop i).length = 64 := by rw [List.length_drop, List.length_take]; omega
   refine Wp.call (take_spec hk D H kg R hblk) fun q ⟨q1, q2⟩ => ?_
   have q2' : Chg (fun x => n0 ≤ x) h q.2 := q2.wk fun x _ e => by have e : x = hb := e; show n0 ≤ x; omega
   refine wr_l0 hk D j bot hn hle hl hr hj d' (i + 64) _ q.2 (by omega) (by omega) (by omega) ?_ (c.trans q2') (kg.chg q2 (by omega)) q1 (A.chg q2 fun a ha e => hr a ha e)
   rw [← ha, absorb_ge (l := l.drop i) (by rw [List.length_drop]; exact c1), List.drop_drop]
   congr 2
   rw [List.drop_take, show i + 64 - i = 64 by omega]
  ·refine Wp.ifn (by simp; omega) ?_
   have hd2 : absorb s (l.drop i) = s := absorb_lt (by rw [List.length_drop]; omega)
   rw [hd2] at ha
   subst ha
   exact hj h i c kg H A (by omega)
theorem write_spec {k0 : Nat} (hk : 100 ≤ k0) (D : CallF) {n0 : Nat} {h : AHeap} {hb : Nat} {s : St} {rest : List UInt8} {long : Nat} (H : Hash n0 h hb s rest long) (kg : KG 0 h) (hn : 0 < n0) (t : ByteArray) (hlong : long + t.size ≤ 140737488351500) (hrest : rest.length ≤ 3800) (hkt : rest.length + t.size < 64 * k0) :
  Wp (sha_Hash_Write k0 D (some ⟨hb, 0, none⟩) t h) fun q => Hash n0 q.2 hb (absorb s (rest ++ bl t)) (restOf (rest ++ bl t)) (long + t.size) ∧ Chg (fun x => n0 ≤ x) h q.2 := by
 obtain ⟨⟨r, HS0, A0, hr⟩, hle⟩ := H
 simp only [sha_Hash_Write]
 have e1 : IntKind.wrap .i64 ((long : Int) + (t.size : Int)) = ((long + t.size : Nat) : Int) := sw64 (by omega) (by omega)
 obtain ⟨s1, H1⟩ := HS0.setL ((long + t.size : Nat) : Int)
 refine Wp.bnd rfl (Wp.bnd (sldI_at HS0.blk (hcells_long (wl_length s))) (Wp.bnd rfl (Wp.bnd (by rw [e1]; exact s1) ?_)))
 obtain ⟨h1, eh1⟩ : ∃ h1, h1 = h.set hb (.cells (hcells (wl s) r ((long + t.size : Nat) : Int)) 150 true 0) := ⟨_, rfl⟩
 rw [← eh1] at H1 ⊢
 have c1 : Chg (fun x => x = hb) h h1 := by rw [eh1]; exact Chg.set (.inr rfl)
 have A1 := A0.chg c1 fun a ha e => hr a ha e
 have n1 : n0 ≤ h1.next := Nat.le_trans hle (Nat.le_of_lt H1.lt)
 obtain ⟨r2, h2, e2, A2, c2, f2⟩ := A1.app (bytes := 1) (fun _ => rfl) (bl t) (by rw [bl_length]; omega) (by omega) n1
 rw [bl_length] at e2
 refine Wp.bnd rfl (Wp.bnd (sldL_at H1.blk (hcells_rest (wl_length s))) ?_)
 rw [bytesL_bl]
 refine Wp.bnd e2 ?_
 have H2 : HS h2 hb s r ((long + t.size : Nat) : Int) := H1.chg c2 fun ⟨a, ha, e⟩ => hr a ha e.symm
 have hr2 : ∀ a, r2.a = some a → a.block ≠ hb := fun a ha e => by
  rcases f2 a ha with f | f
  ·have := H1.lt; omega
  ·exact hr a f e
 obtain ⟨s3, H3⟩ := H2.setR r2
 refine Wp.bnd rfl (Wp.bnd s3 ?_)
 obtain ⟨h3, eh3⟩ : ∃ h3, h3 = h2.set hb (.cells (hcells (wl s) r2 ((long + t.size : Nat) : Int)) 150 true 0) := ⟨_, rfl⟩
 rw [← eh3] at H3 ⊢
 have c3 : Chg (fun x => x = hb) h2 h3 := by rw [eh3]; exact Chg.set (.inr rfl)
 have A3 := A2.chg c3 fun a ha e => hr2 a ha e
 have w1' : Chg (fun x => n0 ≤ x) h h1 := c1.wk fun x _ e => by have e : x = hb := e; show n0 ≤ x; omega
 have w2 : Chg (fun x => n0 ≤ x) h1 h2 := c2.wk fun x _ ⟨a, ha, e⟩ => by have := (A1.lt a ha).2; show n0 ≤ x; omega
 have w3 : Chg (fun x => n0 ≤ x) h2 h3 := c3.wk fun x _ e => by have e : x = hb := e; show n0 ≤ x; omega
 have W3 := w1'.trans (w2.trans w3)
 refine Wp.jn fun j1 hj1 => ?_
 unfold sha_Hash_Write_l0
 obtain ⟨d, hd⟩ : ∃ d, d = (rest ++ bl t).length / 64 := ⟨_, rfl⟩
 have hll : (rest ++ bl t).length = rest.length + t.size := by rw [List.length_append, bl_length]
 obtain ⟨bot1, eb⟩ := iterK_of (fun _ _ _ => none) (sha_Hash_Write_l0b k0 D j1) (show d + 1 ≤ k0 by omega)
 rw [eb]
 refine wr_l0 hk D j1 bot1 hn hle (s0 := s) (h0 := h3) (l := rest ++ bl t) (by omega) hr2 ?_ d 0 s h3 (by omega) (by omega) rfl rfl (Chg.refl _ _) (kg.chg W3 (by omega)) H3 A3
 intro h4 i c4 kg4 H4 A4 hi
 subst hj1
 obtain ⟨u, u1, u2, u3⟩ := acc_sub A4 (i := i) (j := (rest ++ bl t).length) (by omega) (Nat.le_refl _) none (.inr ⟨rfl, rfl⟩)
 have hlen : r2.len = (rest ++ bl t).length := A4.row.1
 refine Wp.bnd rfl (Wp.bnd (sldL_at H4.blk (hcells_rest (wl_length _))) (Wp.bnd u1 (Wp.bnd u2.rdS ?_)))
 have n4 : n0 ≤ h4.next := Nat.le_trans hle (Nat.le_of_lt H4.lt)
 have er : ((rest ++ bl t).take (rest ++ bl t).length).drop i = restOf (rest ++ bl t) := by rw [List.take_length, hi]; rfl
 rw [er]
 obtain ⟨r5, h5, e5, A5, c5, f5⟩ := (Acc.nil encB 5 n0 h4).app (bytes := 1) (fun _ => rfl) (restOf (rest ++ bl t)) (by rw [restOf_length]; simp; omega) (by omega) n4
 have ul : u.len = (restOf (rest ++ bl t)).length := by rw [u3, ← er, List.length_drop, List.take_length]
 rw [← ul] at e5
 refine Wp.bnd e5 ?_
 have k5 : Keeps h4 h5 := c5.wk fun x _ ⟨a, ha, _⟩ => by cases ha
 have H5 := H4.keeps k5
 obtain ⟨s6, H6⟩ := H5.setR r5
 have hr5 : ∀ a, r5.a = some a → a.block ≠ hb := fun a ha e => by
  rcases f5 a ha with f | f
  ·have := H4.lt; omega
  ·cases f
 refine Wp.bnd rfl (Wp.bnd s6 (Wp.of ⟨⟨⟨r5, H6, ?_, hr5⟩, hle⟩, ?_⟩))
 ·exact (A5.chg (Chg.set (S := fun x => x = hb) (.inr rfl)) fun a ha e => hr5 a ha e)
 ·refine W3.trans (c4.trans ((k5.keeps).trans (Chg.set (.inr hle))))
end Ge.B
namespace Ge.B
open Go Gx Go.Proofs
theorem hnew_spec (k0 : Nat) (D : CallF) (h : AHeap) : ∃ h' hb, sha_New k0 D h = some (some ⟨hb, 0, none⟩, h') ∧ Keeps h h' ∧ h.next ≤ hb ∧ Hash h.next h' hb st0 [] 0 := by
 have first : sha_first k0 D h = some (((st0.a.toNat : Int), (st0.b.toNat : Int), (st0.c.toNat : Int), (st0.d.toNat : Int), (st0.e.toNat : Int), (st0.f.toNat : Int), (st0.g.toNat : Int), (st0.h.toNat : Int)), (h.new (.cells [.int .u32 0, .int .u32 0, .int .u32 0, .int .u32 0, .int .u32 0, .int .u32 0, .int .u32 0, .int .u32 0] 147 true 0)).set h.next (.cells ((wl st0).map encU) 147 true 0)) := by
  simp only [sha_first]
  have g1 : (h.new (.cells [.int .u32 0, .int .u32 0, .int .u32 0, .int .u32 0, .int .u32 0, .int .u32 0, .int .u32 0, .int .u32 0] 147 true 0)).get h.next = some (.cells [.int .u32 0, .int .u32 0, .int .u32 0, .int .u32 0, .int .u32 0, .int .u32 0, .int .u32 0, .int .u32 0] 147 true 0) := by simp
  have s1 := sstL_at (sp := none) g1 rfl (show ((wl st0).map encU).length = 8 from rfl) rfl (by decide)
  refine bnd s1 (bnd (sldA_at (sset_get _ _ _) rfl) (bnd rfl rfl))
 simp only [sha_New]
 let h1 := (h.new (.cells [.int .u32 0, .int .u32 0, .int .u32 0, .int .u32 0, .int .u32 0, .int .u32 0, .int .u32 0, .int .u32 0] 147 true 0)).set h.next (.cells ((wl st0).map encU) 147 true 0)
 have k1 : Keeps h h1 := Keeps.set (Keeps.new h _) (Nat.le_refl _)
 have n1 : h1.next = h.next + 1 := by simp [h1]
 refine ⟨h1.new (.cells (hcells (wl st0) ⟨none, 0, 0⟩ 0) 150 true 0), h1.next, bnd first rfl, k1.trans (Keeps.new _ _), by omega, ⟨⟨⟨none, 0, 0⟩, ⟨by simp, by simp⟩, Acc.nil _ _ _ _, fun a ha => by cases ha⟩, by omega⟩⟩
theorem fork_spec (k0 : Nat) (D : CallF) {n0 : Nat} {h : AHeap} {hb : Nat} {s : St} {rest : List UInt8} {long : Nat} (H : Hash n0 h hb s rest long) (hr : rest.length ≤ 140737488355000) :
  ∃ h' eb, sha_Hash_Fork k0 D (some ⟨hb, 0, none⟩) h = some (some ⟨eb, 0, none⟩, h') ∧ Keeps h h' ∧ Hash h.next h' eb s rest long ∧ Hash n0 h' hb s rest long := by
 have H0 := H
 obtain ⟨⟨r, HS0, A0, hne⟩, hle⟩ := H
 simp only [sha_Hash_Fork]
 obtain ⟨r3, h3, e3, A3, c3, f3⟩ := (Acc.nil encB 5 h.next h).app (bytes := 1) (fun _ => rfl) rest (by simp; omega) (by omega) (Nat.le_refl _)
 have hlen : r.len = rest.length := A0.row.1
 rw [← hlen] at e3
 have k3 : Keeps h h3 := c3.wk fun x _ ⟨a, ha, _⟩ => by cases ha
 have H3 := HS0.keeps k3
 have tk : (hcells (wl s) r (long : Int)).take 8 = (wl s).map encU := rfl
 have ldw : ∀ {g : AHeap}, HS g hb s r (long : Int) → ldA 8 ⟨hb, 0, none⟩ g = some ((wl s).map encU) := fun {g} Hg => by
  have := sldA_take (sp := none) Hg.blk (show 0 < 8 by decide) (by rw [hcells_length (wl_length s)]; decide)
  rw [tk] at this; exact this
 have ldl : ∀ {g : AHeap}, HS g hb s r (long : Int) → ldI .i64 ⟨hb, 9, none⟩ g = some (long : Int) := fun {g} Hg => sldI_at Hg.blk (hcells_long (wl_length s))
 refine ⟨h3.new (.cells (hcells (wl s) r3 (long : Int)) 150 true 0), h3.next, ?_, k3.trans (Keeps.new _ _), ⟨⟨r3, ⟨by simp, by simp⟩, A3.keeps (Keeps.new _ _), fun a ha => ?_⟩, k3.nx⟩, H0.keeps (k3.trans (Keeps.new _ _))⟩
 ·refine bnd rfl (bnd (sldL_at HS0.blk (hcells_rest (wl_length s))) (bnd A0.row.rdS (bnd e3 (bnd rfl (bnd (ldw H3) ?_)))))
  refine gp (ssw1 ?_) (bnd rfl (bnd rfl (bnd (ldl H3) (gp (ssw1 ?_) rfl))))
  ·show (ldA 8 ⟨hb, 0, none⟩ h).bind _ = _
   rw [ldw HS0]; rfl
  ·show (ldI .i64 ⟨hb, 9, none⟩ h).bind _ = _
   rw [ldl HS0]; rfl
 ·have := (A3.lt a ha).1
  omega
theorem sm_l2 {k0 : Nat} (D : CallF) (j) (bot) {Q : ByteArray × AHeap → Prop} {n0 eb hb : Nat} {s : St} {rest : List UInt8} {long : Nat} (hrl : rest.length < 64) {h0 : AHeap}
  (hj : ∀ h t, Keeps h0 h → Lst encB 5 h0.next h t (128 :: List.replicate (zeroN rest.length) 0) → Wp (j (some ⟨hb, 0, none⟩) (some ⟨eb, 0, none⟩) t h) Q) (H : Hash n0 h0 eb s rest long) :
  ∀ (d i : Nat) (t : Slc) (h : AHeap), i + d = zeroN rest.length → Keeps h0 h → Lst encB 5 h0.next h t (128 :: List.replicate i 0) →
   Wp (iterK bot (d + 1) (sha_Hash_Sum_l2b k0 D j) (some ⟨hb, 0, none⟩) (some ⟨eb, 0, none⟩) t h) Q := fun d => by
 induction d with
 | zero =>
  intro i t h hi kp L
  rw [iterK_s]; simp only [sha_Hash_Sum_l2b]
  obtain ⟨r, H1, A1, _⟩ := (H.keeps kp).ok
  refine Wp.bnd rfl (Wp.bnd (sldL_at H1.blk (hcells_rest (wl_length s))) ?_)
  have hl : r.len = rest.length := A1.row.1
  have tl := L.len
  rw [List.length_cons, List.length_replicate] at tl
  have e : Int.tmod (IntKind.wrap .i64 ((r.len : Int) + (t.len : Int))) 64 = 56 := by
   rw [hl, tl, w64 _ (by unfold zeroN at hi; omega), Int.tmod_eq_emod_of_nonneg (by omega)]
   unfold zeroN at hi; omega
  rw [e]
  refine Wp.ifn (by simp) ?_
  have : i = zeroN rest.length := by omega
  subst this
  exact hj h t kp L
 | succ d ih =>
  intro i t h hi kp L
  rw [iterK_s]; simp only [sha_Hash_Sum_l2b]
  obtain ⟨r, H1, A1, _⟩ := (H.keeps kp).ok
  refine Wp.bnd rfl (Wp.bnd (sldL_at H1.blk (hcells_rest (wl_length s))) ?_)
  have hl : r.len = rest.length := A1.row.1
  have tl := L.len
  rw [List.length_cons, List.length_replicate] at tl
  have e : Int.tmod (IntKind.wrap .i64 ((r.len : Int) + (t.len : Int))) 64 ≠ 56 := by
   rw [hl, tl, w64 _ (by unfold zeroN at hi; omega), Int.tmod_eq_emod_of_nonneg (by omega)]
   unfold zeroN at hi; omega
  refine Wp.ifp (by simpa using e) ?_
  refine Wp.bnd rdS_one ?_
  have k1 : Keeps h (h.new (.cells [.int .u8 0] 5 true 0)) := Keeps.new h _
  obtain ⟨t', h', e1, L', c1⟩ := (L.chg k1 fun _ _ f => f).app (bytes := 1) (fun _ => rfl) [0] (by simp) (by simp; unfold zeroN at hi; omega) (by omega) (Nat.le_trans kp.nx k1.nx)
  refine Wp.bnd e1 ?_
  refine ih (i + 1) t' h' (by omega) ?_ ?_
  ·exact Chg.beh (kp.trans k1) c1 fun x hx e => by have e : h0.next ≤ x := e; omega
  ·rw [List.replicate_succ']; simpa using L'
theorem be64_length (n : Nat) : (be64 n).length = 8 := rfl
theorem be64_get (n : Nat) : ∀ j, j < 8 → (be64 n)[j]? = some (b8 (n / 2 ^ (56 - 8 * j)))
 | 0, _ => rfl
 | 1, _ => rfl
 | 2, _ => rfl
 | 3, _ => rfl
 | 4, _ => rfl
 | 5, _ => rfl
 | 6, _ => rfl
 | 7, _ => by show some (b8 n) = some (b8 (n / 2 ^ 0)); rw [Nat.pow_zero, Nat.div_one]
 | n + 8, h => by omega
theorem b8_int (n : Nat) : IntKind.wrap .u8 (n : Int) = ((b8 n).toNat : Int) := by
 rw [Go.IntKind.wrap_u8]
 unfold b8
 rw [UInt8.toNat_ofNat']
 omega
theorem sm_l1 {k0 : Nat} (D : CallF) (j) (bot) {Q : ByteArray × AHeap → Prop} {e : Option Addr} {base : List UInt8} (hbl : base.length ≤ 1000) (c : Nat) {h0 : AHeap}
  (hj : ∀ h t, Keeps h0 h → Lst encB 5 h0.next h t (base ++ be64 c) → Wp (j e t h) Q) :
  ∀ (d i : Nat) (t : Slc) (h : AHeap), i + d = 8 → Keeps h0 h → Lst encB 5 h0.next h t (base ++ (be64 c).take i) →
   Wp (iterK bot (d + 1) (sha_Hash_Sum_l1b k0 D j) e t (c : Int) (56 - 8 * (i : Int)) h) Q := fun d => by
 induction d with
 | zero =>
  intro i t h hi kp L
  rw [iterK_s]; simp only [sha_Hash_Sum_l1b]
  obtain rfl : i = 8 := by omega
  have e8 : (be64 c).take 8 = be64 c := rfl
  rw [e8] at L
  exact Wp.ifn (by simp) (hj h t kp L)
 | succ d ih =>
  intro i t h hi kp L
  rw [iterK_s]; simp only [sha_Hash_Sum_l1b]
  refine Wp.ifp (by simp; omega) ?_
  refine Wp.ifp (by omega) ?_
  have es : (56 - 8 * (i : Int)).toNat = 56 - 8 * i := by omega
  have em : min (56 - 8 * i) (IntKind.bits .u64) = 56 - 8 * i := Nat.min_eq_left (by show 56 - 8 * i ≤ 64; omega)
  have ep : (2 : Int) ^ (56 - 8 * i) = ((2 ^ (56 - 8 * i) : Nat) : Int) := by simp
  have ef : Int.fdiv (c : Int) ((2 ^ (56 - 8 * i) : Nat) : Int) = ((c / 2 ^ (56 - 8 * i) : Nat) : Int) := by
   rw [Int.fdiv_eq_ediv_of_nonneg _ (Int.natCast_nonneg _)]; simp
  rw [es, em, ep, ef, b8_int]
  refine Wp.bnd rdS_one ?_
  have k1 : Keeps h (h.new (.cells [.int .u8 ((b8 (c / 2 ^ (56 - 8 * i))).toNat : Int)] 5 true 0)) := Keeps.new h _
  obtain ⟨t', h', e1, L', c1⟩ := (L.chg k1 fun _ _ f => f).app (bytes := 1) (fun _ => rfl) [b8 (c / 2 ^ (56 - 8 * i))] (by simp) (by rw [List.length_append, List.length_take, be64_length]; simp; omega) (by omega) (Nat.le_trans kp.nx k1.nx)
  refine Wp.bnd e1 ?_
  have ew : IntKind.wrap .i64 (56 - 8 * (i : Int) - 8) = 56 - 8 * ((i + 1 : Nat) : Int) := by rw [w64 _ (by omega)]; omega
  rw [ew]
  refine ih (i + 1) t' h' (by omega) ?_ ?_
  ·exact Chg.beh (kp.trans k1) c1 fun x hx e => by have e : h0.next ≤ x := e; omega
  ·rw [List.take_add_one, be64_get c i (by omega)]
   simpa using L'
theorem out_bytes (x : UInt32) : [Value.int .u8 (IntKind.wrap .u8 (Int.fdiv (x.toNat : Int) 16777216)), .int .u8 (IntKind.wrap .u8 (Int.fdiv (x.toNat : Int) 65536)), .int .u8 (IntKind.wrap .u8 (Int.fdiv (x.toNat : Int) 256)), .int .u8 (IntKind.wrap .u8 (x.toNat : Int))] = (out32 x).map encB := by
 have e1 : Int.fdiv (x.toNat : Int) 16777216 = ((x.toNat / 16777216 : Nat) : Int) := by rw [Int.fdiv_eq_ediv_of_nonneg _ (by omega)]; simp
 have e2 : Int.fdiv (x.toNat : Int) 65536 = ((x.toNat / 65536 : Nat) : Int) := by rw [Int.fdiv_eq_ediv_of_nonneg _ (by omega)]; simp
 have e3 : Int.fdiv (x.toNat : Int) 256 = ((x.toNat / 256 : Nat) : Int) := by rw [Int.fdiv_eq_ediv_of_nonneg _ (by omega)]; simp
 rw [e1, e2, e3, b8_int, b8_int, b8_int, b8_int]; rfl
theorem out_flat (s : St) : outSt s = ((wl s).map out32).flatten := by simp [outSt, wl]
theorem sm_l0 {k0 : Nat} (D : CallF) (j) (bot) {Q : ByteArray × AHeap → Prop} (s : St) {h0 : AHeap}
  (hj : ∀ h t, Keeps h0 h → Acc encB 5 h0.next h t (outSt s) → Wp (j t h) Q) :
  ∀ (d i : Nat) (t : Slc) (h : AHeap), i + d = 8 → Keeps h0 h → Acc encB 5 h0.next h t (((wl s).take i).map out32).flatten →
   Wp (iterK bot (d + 1) (sha_Hash_Sum_l0b k0 D j) t ((s.a.toNat : Int), (s.b.toNat : Int), (s.c.toNat : Int), (s.d.toNat : Int), (s.e.toNat : Int), (s.f.toNat : Int), (s.g.toNat : Int), (s.h.toNat : Int)) (i : Int) h) Q := fun d => by
 induction d with
 | zero =>
  intro i t h hi kp A
  rw [iterK_s]; simp only [sha_Hash_Sum_l0b]
  obtain rfl : i = 8 := by omega
  refine Wp.ifn (by simp) (hj h t kp ?_)
  rw [out_flat]; exact A
 | succ d ih =>
  intro i t h hi kp A
  rw [iterK_s]; simp only [sha_Hash_Sum_l0b]
  refine Wp.ifp (by simp; omega) ?_
  refine Wp.ifp (by omega) ?_
  obtain ⟨x, hx⟩ := isome (l := wl s) (i := i) (by rw [wl_length]; omega)
  have hlx : ((wl s).map encU)[((i : Int)).toNat * 1]? = some (.int .u32 (x.toNat : Int)) := by
   rw [Int.toNat_natCast, Nat.mul_one, List.getElem?_map, hx]; rfl
  refine Wp.bnd hlx (Wp.bnd rfl ?_)
  rw [out_bytes]
  have k1 : Keeps h (h.new (.cells ((out32 x).map encB) 5 true 0)) := Keeps.new h _
  have hr := rdL_all (h := h.new (.cells ((out32 x).map encB) 5 true 0)) (b := h.next) (c := (out32 x).map encB) (e := 5) (r := true) (fz := 0) (by simp)
  have hr' : Gx.rdS 1 (⟨some ⟨h.next, 0, some 0⟩, 4, 4⟩ : Slc) (h.new (.cells ((out32 x).map encB) 5 true 0)) = some ((out32 x).map encB) := hr
  refine Wp.bnd hr' ?_
  have hlen : (((wl s).take i).map out32).flatten.length = 4 * i := by
   have : ∀ l : List UInt32, (l.map out32).flatten.length = 4 * l.length := fun l => by
    induction l with
    | nil => rfl
    | cons y l ih => rw [List.map_cons, List.flatten_cons, List.length_append, ih]; simp [out32]; omega
   rw [this, List.length_take, wl_length]; omega
  obtain ⟨t', h', e1, A', c1, _⟩ := (A.keeps k1).app (bytes := 1) (fun _ => rfl) (out32 x) (by rw [hlen]; simp [out32]; omega) (by omega) (Nat.le_trans kp.nx k1.nx)
  refine Wp.bnd e1 ?_
  rw [Gx.w1 (by omega)]
  refine ih (i + 1) t' h' (by omega) ?_ ?_
  ·exact Chg.beh (kp.trans k1) c1 fun y hy ⟨a, ha, e⟩ => by have := (A.lt a ha).2; omega
  ·rw [List.take_add_one, hx]
   simpa using A'
theorem hsum_spec {k0 : Nat} (hk : 200 ≤ k0) (D : CallF) {n0 : Nat} {h : AHeap} {hb : Nat} {s : St} {rest : List UInt8} {long : Nat} (H : Hash n0 h hb s rest long) (hrl : rest.length < 64) (hlong : long ≤ 140737488351300) (kg : KG 0 h) :
  Wp (sha_Hash_Sum k0 D (some ⟨hb, 0, none⟩) h) fun q => q.1 = ⟨⟨outSt (absorb s (rest ++ (128 :: List.replicate (zeroN rest.length) 0 ++ be64 (long * 8))))⟩⟩ ∧ Keeps h q.2 := by
 simp only [sha_Hash_Sum]
 obtain ⟨h1, eb, e1, k1, F1, H1⟩ := fork_spec k0 D H (by omega)
 refine Wp.bnd e1 ?_
 let h2 := h1.new (.cells [.int .u8 128] 5 true 0)
 have k2 : Keeps h1 h2 := Keeps.new h1 _
 have F2 := F1.keeps k2
 have L2 : Lst encB 5 h1.next h2 (⟨some ⟨h1.next, 0, some 0⟩, 1, 1⟩ : Slc) [128] := ⟨by simp, h1.next, some 0, rfl, by simp [h2, outB, encB], Nat.le_refl _, by simp [h2], .inl rfl⟩
 refine Wp.jn fun j2 hj2 => ?_
 unfold sha_Hash_Sum_l2
 have hz : zeroN rest.length < 64 := Nat.mod_lt _ (by decide)
 obtain ⟨bot2, b2⟩ := iterK_of (fun _ _ _ _ => none) (sha_Hash_Sum_l2b k0 D j2) (show zeroN rest.length + 1 ≤ k0 by omega)
 rw [b2]
 refine sm_l2 (k0 := k0) D j2 bot2 (n0 := h.next) (long := long) hrl (h0 := h1) ?_ F1 (zeroN rest.length) 0 _ h2 (by omega) k2 L2
 intro h3 t3 k3 L3
 subst hj2
 dsimp only
 obtain ⟨r, HS3, _, _⟩ := (H1.keeps k3).ok
 refine Wp.bnd rfl (Wp.bnd (sldI_at HS3.blk (hcells_long (wl_length s))) ?_)
 refine Wp.jn fun j1 hj1 => ?_
 unfold sha_Hash_Sum_l1
 obtain ⟨bot1, b1⟩ := iterK_of (fun _ _ _ _ _ => none) (sha_Hash_Sum_l1b k0 D j1) (show 8 + 1 ≤ k0 by omega)
 rw [b1]
 have ec : IntKind.wrap .u64 (IntKind.wrap .u64 (long : Int) * 8) = ((long * 8 : Nat) : Int) := by
  rw [wr_u64 (long : Int) (by omega) (by omega), wr_u64 _ (by omega) (by omega)]; omega
 rw [ec]
 have hbase : (128 :: List.replicate (zeroN rest.length) (0 : UInt8)).length ≤ 1000 := by simp; omega
 have L3' : Lst encB 5 h1.next h3 t3 (128 :: List.replicate (zeroN rest.length) 0 ++ (be64 (long * 8)).take 0) := by simpa using L3
 have step := sm_l1 (k0 := k0) D j1 bot1 (Q := fun q => q.1 = ⟨⟨outSt (absorb s (rest ++ (128 :: List.replicate (zeroN rest.length) 0 ++ be64 (long * 8))))⟩⟩ ∧ Keeps h q.2) (e := some ⟨eb, 0, none⟩) (base := 128 :: List.replicate (zeroN rest.length) 0) hbase (long * 8) (h0 := h1) ?_ 8 0 t3 h3 (by omega) k3 L3'
 ·exact step
 intro h4 t4 k4 L4
 subst hj1
 dsimp only
 obtain ⟨tb, sp, rfl, g4, _, _, _⟩ := L4.st
 have bo := bytesOf_out (h := h4) (b := tb) (sp := sp) (cap := (128 :: List.replicate (zeroN rest.length) 0 ++ be64 (long * 8)).length) (l := 128 :: List.replicate (zeroN rest.length) 0 ++ be64 (long * 8)) (e := 5) (r := true) (fz := 0) g4
 refine Wp.bnd bo ?_
 have F4 := F1.keeps k4
 have tl : (128 :: List.replicate (zeroN rest.length) 0 ++ be64 (long * 8)).length ≤ 100 := by rw [List.length_append, be64_length]; simp; omega
 have tz : (⟨⟨128 :: List.replicate (zeroN rest.length) 0 ++ be64 (long * 8)⟩⟩ : ByteArray).size ≤ 100 := by rw [size_mk]; exact tl
 refine Wp.call (write_spec (k0 := k0) (by omega) D F4 (kg.chg (k1.trans k4) fun f => f) (by have := kg.lt; omega) ⟨⟨128 :: List.replicate (zeroN rest.length) 0 ++ be64 (long * 8)⟩⟩ (by omega) (by omega) (by omega)) fun q ⟨q1, q2⟩ => ?_
 obtain ⟨u5, hh5⟩ := q
 simp only at q1 q2 ⊢
 obtain ⟨r5, HS5, _, _⟩ := q1.ok
 refine Wp.jn fun j0 hj0 => ?_
 have tk : ∀ (u : St) (r : Slc) (l : Int), (hcells (wl u) r l).take 8 = (wl u).map encU := fun u r l => rfl
 have ld5 := sldA_take (sp := none) HS5.blk (show 0 < 8 by decide) (by rw [hcells_length (wl_length _)]; decide)
 rw [tk] at ld5
 refine Wp.bnd rfl (Wp.bnd ld5 (Wp.bnd rfl ?_))
 unfold sha_Hash_Sum_l0
 obtain ⟨bot0, b0⟩ := iterK_of (fun _ _ _ _ => none) (sha_Hash_Sum_l0b k0 D j0) (show 8 + 1 ≤ k0 by omega)
 rw [b0]
 have k5 : Keeps h hh5 := Chg.beh (k1.trans k4) q2 fun x hx e => by have e : h.next ≤ x := e; omega
 refine sm_l0 (k0 := k0) D j0 bot0 (absorb s (rest ++ bl ⟨⟨128 :: List.replicate (zeroN rest.length) 0 ++ be64 (long * 8)⟩⟩)) (h0 := hh5) ?_ 8 0 ⟨none, 0, 0⟩ hh5 (by omega) (Chg.refl _ _) (Acc.nil _ _ _ _)
 intro h6 t6 k6 A6
 subst hj0
 dsimp only
 rcases A6.st with ⟨_, e⟩ | ⟨b, g⟩
 ·simp [outSt, out32] at e
 ·have hg := g.s
  subst hg
  have bo := bytesOf_out (h := h6) (b := b) (sp := some 2) (cap := (outSt (absorb s (rest ++ bl ⟨⟨128 :: List.replicate (zeroN rest.length) 0 ++ be64 (long * 8)⟩⟩))).length) (l := outSt (absorb s (rest ++ bl ⟨⟨128 :: List.replicate (zeroN rest.length) 0 ++ be64 (long * 8)⟩⟩))) (e := 5) (r := true) (fz := 0) g.blk
  exact Wp.bnd bo (Wp.of ⟨rfl, k5.trans k6⟩)
end Ge.B
namespace Ge.B
open Go Gx Go.Proofs
def catL (xs : List ByteArray) : List UInt8 := (xs.map bl).flatten
theorem zeroN_mod (n : Nat) : zeroN (n % 64) = zeroN n := by unfold zeroN; rw [Nat.mod_mod]
theorem catL_take {xs : List ByteArray} {i : Nat} {x : ByteArray} (hx : xs[i]? = some x) : catL (xs.take (i + 1)) = catL (xs.take i) ++ bl x := by
 unfold catL
 rw [List.take_add_one, hx]
 simp
theorem catL_le (xs : List ByteArray) (i : Nat) : (catL (xs.take i)).length ≤ (catL xs).length := by
 have : catL xs = catL (xs.take i) ++ catL (xs.drop i) := by
  unfold catL
  rw [← List.flatten_append, ← List.map_append, List.take_append_drop]
 rw [this, List.length_append]; omega
theorem sum_spec {k0 : Nat} (hk : 200 ≤ k0) (D : CallF) {h : AHeap} {y : Slc} {xs : List ByteArray} (kg : KG 0 h) (R : Row encS h y xs) (hx : (catL xs).length ≤ 140737488351300) (hkx : (catL xs).length < 64 * k0) (hxl : xs.length < k0) (hxl2 : xs.length < 9223372036854775807) :
  Wp (sha_Sum k0 D y h) fun q => q.1 = ⟨⟨digest (catL xs)⟩⟩ ∧ Keeps h q.2 := by
 simp only [sha_Sum]
 obtain ⟨h1, hb, e1, k1, hle, H1⟩ := hnew_spec k0 D h
 refine Wp.bnd e1 ?_
 refine Wp.jn fun j hj => ?_
 unfold sha_Sum_l0
 obtain ⟨bot, b⟩ := iterK_of (fun _ _ _ _ _ => none) (sha_Sum_l0b k0 D j) (show xs.length + 1 ≤ k0 by omega)
 rw [b, R.1]
 have H1' : Hash h.next h1 hb st0 [] 0 := H1
 have main : ∀ (Q : ByteArray × AHeap → Prop), (∀ g, Chg (fun x => h.next ≤ x) h1 g → Hash h.next g hb (absorb st0 (catL xs)) (restOf (catL xs)) (catL xs).length → Wp (j (some ⟨hb, 0, none⟩) g) Q) →
   ∀ (d i : Nat) (g : AHeap), i + d = xs.length → Chg (fun x => h.next ≤ x) h1 g → Hash h.next g hb (absorb st0 (catL (xs.take i))) (restOf (catL (xs.take i))) (catL (xs.take i)).length →
    Wp (iterK bot (d + 1) (sha_Sum_l0b k0 D j) (some ⟨hb, 0, none⟩) y (xs.length : Int) (i : Int) g) Q := fun Q hQ d => by
  induction d with
  | zero =>
   intro i g hi c H
   rw [iterK_s]; simp only [sha_Sum_l0b]
   obtain rfl : i = xs.length := by omega
   rw [List.take_length] at H
   exact Wp.ifn (by simp) (hQ g c H)
  | succ d ih =>
   intro i g hi c H
   rw [iterK_s]; simp only [sha_Sum_l0b]
   have kp : Keeps h g := Chg.beh k1 c fun x hx e => by have e : h.next ≤ x := e; omega
   refine Wp.ifp (by simp; omega) ?_
   obtain ⟨x, hxi⟩ := isome (l := xs) (i := i) (by omega)
   obtain ⟨q, i1, i2⟩ := (R.keeps kp).ldS hxi
   refine Wp.bnd i1 (Wp.bnd i2 ?_)
   have hc := catL_take hxi
   have hle' := catL_le xs (i + 1)
   rw [hc, List.length_append, bl_length] at hle'
   have hrl := restOf_length (catL (xs.take i))
   refine Wp.call (write_spec (k0 := k0) (by omega) D H (kg.chg kp fun f => f) (by have := kg.lt; omega) x (by omega) (by omega) (by omega)) fun q ⟨q1, q2⟩ => ?_
   rw [Gx.w1 (by omega)]
   refine ih (i + 1) q.2 (by omega) (c.trans q2) ?_
   rw [hc, List.length_append, bl_length, ← absorb_app (bl x) _ st0 (catL (xs.take i)) (Nat.le_refl _), ← restOf_app]
   exact q1
 refine main _ ?_ xs.length 0 h1 (by omega) (Chg.refl _ _) ?_
 ·intro g c H
  subst hj
  dsimp only
  have kp : Keeps h g := Chg.beh k1 c fun x hx e => by have e : h.next ≤ x := e; omega
  refine Wp.call (hsum_spec hk D H (by rw [restOf_length]; omega) (by omega) (kg.chg kp fun f => f)) fun q ⟨q1, q2⟩ => ?_
  refine Wp.of ⟨?_, kp.trans q2⟩
  rw [q1, restOf_length, zeroN_mod, absorb_app _ _ _ _ (Nat.le_refl _)]
  rfl
 ·have e0 : catL (xs.take 0) = [] := rfl
  rw [e0, absorb_lt (by simp), restOf_lt (by simp)]
  exact H1'
end Ge.B
namespace Ge.B
open Go Gx
def fixL (n : Nat) : Nat → List UInt8
 | 0 => []
 | k + 1 => UInt8.ofNat (n / 256 ^ k) :: fixL n k
theorem fixL_length (n : Nat) : ∀ k, (fixL n k).length = k
 | 0 => rfl
 | k + 1 => by simp [fixL, fixL_length n k]
theorem fixL_get (n : Nat) : ∀ (k i : Nat), i < k → (fixL n k)[i]? = some (UInt8.ofNat (n / 256 ^ (k - 1 - i)))
 | 0, i, h => by omega
 | k + 1, 0, _ => by simp [fixL]
 | k + 1, i + 1, h => by
  simp only [fixL, List.getElem?_cons_succ]
  rw [fixL_get n k i (by omega)]
  congr 4; omega
theorem toNat_ofNat (n : Nat) : (UInt8.ofNat n).toNat = n % 256 := by simp
theorem ofNat_mod (n : Nat) : UInt8.ofNat (n % 256) = UInt8.ofNat n := by
 apply UInt8.toNat_inj.1
 rw [toNat_ofNat, toNat_ofNat]; omega
end Ge.B
namespace Ge.B
open Go Gx Go.Proofs
theorem ldS_at {h : AHeap} {b o : Nat} {sp : Option Nat} {c : List Value} {e : TypeId} {r : Bool} {fz : Nat} {x : ByteArray} (hb : h.get b = some (.cells c e r fz)) (hc : c[o]? = some (.string x)) : ldS ⟨b, o, sp⟩ h = some x := by
 simp [ldS, AHeap.rd1, hb, hc, decS]
theorem wu8 (m : Nat) : IntKind.wrap .u8 (m : Int) = ((m % 256 : Nat) : Int) := by rw [Go.IntKind.wrap_u8]; omega
def fixP (n k i : Nat) : List UInt8 := (List.range k).map fun j => if k ≤ j + i then UInt8.ofNat (n / 256 ^ (k - 1 - j)) else 0
theorem fixP_length (n k i : Nat) : (fixP n k i).length = k := by simp [fixP]
theorem fixP_zero (n k : Nat) : fixP n k 0 = List.replicate k 0 := by
 apply List.ext_getElem?
 intro j
 simp only [fixP, List.getElem?_map, List.getElem?_replicate]
 by_cases hj : j < k
 ·simp [hj]; omega
 ·simp [hj]
theorem fixP_all (n k : Nat) : fixP n k k = fixL n k := by
 apply List.ext_getElem?
 intro j
 by_cases hj : j < k
 ·rw [fixL_get n k j hj]; simp [fixP, hj]
 ·rw [List.getElem?_eq_none (by rw [fixP_length]; omega), List.getElem?_eq_none (by rw [fixL_length]; omega)]
theorem fixP_set {n k i : Nat} (hi : i < k) : (fixP n k i).set (k - 1 - i) (UInt8.ofNat (n / 256 ^ i)) = fixP n k (i + 1) := by
 apply List.ext_getElem?
 intro j
 by_cases hj : j < k
 ·rw [List.getElem?_set]
  by_cases he : k - 1 - i = j
  ·rw [if_pos he, if_pos (by rw [fixP_length]; omega)]
   have : i = k - 1 - j := by omega
   subst this
   simp [fixP, hj]
   omega
  ·rw [if_neg he]
   simp only [fixP, List.getElem?_map, List.getElem?_range hj, Option.map_some, Option.some.injEq]
   by_cases h1 : k ≤ j + i
   ·rw [if_pos h1, if_pos (by omega)]
   ·rw [if_neg h1, if_neg (by omega)]
 ·rw [List.getElem?_eq_none (by rw [List.length_set, fixP_length]; omega), List.getElem?_eq_none (by rw [fixP_length]; omega)]
abbrev nfT := Int → Int → Slc → Int → Int → AHeap → Option ((ByteArray × Int) × AHeap)
theorem fix_l0 (K : Nat) (D : CallF) (j) (bot : nfT) {n k : Nat} (hn : n < 9223372036854775808) (hk : k ≤ 7) {b cap : Nat} {sp : Option Nat} {e : TypeId} : ∀ (m i : Nat) (h : AHeap), i + m = k → h.get b = some (.cells ((fixP n k i).map encB) e true 0) →
  iterK bot (m + 1) (num_Fixed_l0b K D j) (n : Int) (k : Int) (⟨some ⟨b, 0, sp⟩, k, cap⟩ : Slc) (k : Int) (i : Int) h = j (n : Int) (k : Int) (⟨some ⟨b, 0, sp⟩, k, cap⟩ : Slc) (h.set b (.cells ((fixL n k).map encB) e true 0))
 | 0, i, h, hi, hb => by
  obtain rfl : i = k := by omega
  rw [fixP_all] at hb
  rw [iterK_s]; simp only [num_Fixed_l0b]
  refine ifn (by simp) ?_
  rw [set_self hb]
 | m + 1, i, h, hi, hb => by
  rw [iterK_s]; simp only [num_Fixed_l0b]
  refine ifp (by simp; omega) ?_
  have e1 : IntKind.wrap .i64 (8 * (i : Int)) = ((8 * i : Nat) : Int) := by rw [w64 _ (by omega)]; omega
  have e2 : IntKind.wrap .i64 (IntKind.wrap .i64 ((k : Int) - 1) - (i : Int)) = ((k - 1 - i : Nat) : Int) := by rw [w64 ((k : Int) - 1) (by omega), w64 _ (by omega)]; omega
  rw [e1, e2]
  refine ifp (by omega) ?_
  refine bnd (idxL_out (by omega)) ?_
  rw [shr64 n (8 * i) (by omega), wu8]
  refine bnd (stB_out hb (by rw [fixP_length]; omega) (Nat.mod_lt _ (by decide))) ?_
  rw [w1 (by omega), ofNat_mod, Nat.pow_mul, show (2 : Nat) ^ 8 = 256 from rfl, fixP_set (by omega)]
  refine (fix_l0 K D j bot hn hk (e := e) m (i + 1) (h.set b (.cells ((fixP n k (i + 1)).map encB) e true 0)) (by omega) (by simp)).trans ?_
  rw [set_set]
theorem nfix_spec {kf : Nat} (hkf : 9 ≤ kf) (D : CallF) (n k : Nat) (h : AHeap) (hk1 : 1 ≤ k) (hk7 : k ≤ 7) (hn : n < 9223372036854775808) :
  ∃ h', num_Fixed kf D (n : Int) (k : Int) h = some ((if n < 256 ^ k then ((⟨⟨fixL n k⟩⟩ : ByteArray), 0) else ((⟨#[]⟩ : ByteArray), 1)), h') ∧ Keeps h h' := by
 simp only [num_Fixed]
 let H := (h.new (.cells ((List.replicate k (0 : UInt8)).map encB) 5 true 0)).set h.next (.cells ((fixL n k).map encB) 5 true 0)
 refine ⟨H, ?_, Chg.beh (Keeps.new h _) (Chg.set (S := fun x => x = h.next) (.inr rfl)) (fun x hx e => by have : x = h.next := e; omega)⟩
 refine jn ?_
 refine ifn (by simp <;> omega) ?_
 refine ifn (by simp <;> omega) ?_
 refine ifn (by simp <;> omega) ?_
 refine ifp (by omega) ?_
 refine jn ?_
 rw [Int.toNat_natCast, zeros_bytes]
 unfold num_Fixed_l0
 have hb : (h.new (.cells ((List.replicate k (0 : UInt8)).map encB) 5 true 0)).get h.next = some (.cells ((fixP n k 0).map encB) 5 true 0) := by rw [fixP_zero]; simp
 generalize hj : (fun (n7 : Int) (bytes8 : Int) (b9 : Slc) (h10 : AHeap) => joinK _ _) = j
 obtain ⟨bot', e2⟩ := iterK_of (α := nfT) (fun _ _ _ _ _ _ => none) (num_Fixed_l0b kf D j) (show k + 1 ≤ kf by omega)
 rw [e2]
 refine (fix_l0 kf D j bot' hn hk7 k 0 _ (by omega) hb).trans ?_
 subst hj
 refine jn ?_
 refine ifp (by simp; omega) ?_
 have e1 : IntKind.wrap .i64 (8 * (k : Int)) = ((8 * k : Nat) : Int) := by rw [w64 _ (by omega)]; omega
 rw [e1]
 refine ifp (by omega) ?_
 rw [shr64 n (8 * k) (by omega), Nat.pow_mul, show (2 : Nat) ^ 8 = 256 from rfl]
 by_cases hlt : n < 256 ^ k
 ·rw [if_pos hlt]
  refine ifn (by simp [Nat.div_eq_of_lt hlt]) ?_
  have hg : H.get h.next = some (.cells ((fixL n k).map encB) 5 true 0) := by simp [H]
  have := bytesOf_out (cap := k) (sp := some 0) hg
  rw [fixL_length] at this
  exact bnd this rfl
 ·rw [if_neg hlt]
  refine ifp ?_ rfl
  have : 0 < n / 256 ^ k := Nat.div_pos (by omega) (Nat.pow_pos (by decide))
  exact decide_eq_true (by omega)
end Ge.B
namespace Ge.B
open Go Gx Go.Proofs
theorem ba_app (a b : List UInt8) : (⟨⟨a⟩⟩ : ByteArray) ++ (⟨⟨b⟩⟩ : ByteArray) = ⟨⟨a ++ b⟩⟩ := by
 apply bl_inj
 simp [bl]
end Ge.B
namespace Ge.B
open Go Gx Go.Proofs
end Ge.B
namespace Ge.B
open Go Gx Go.Proofs
end Ge.B
namespace Ge
open Go Gx
theorem bknown_spec (k : Nat) (D : CallF) (n : Int) (h : AHeap) : blob_known k D n h = some (decide (n = 1 ∨ n = 2), h) := by
 simp only [blob_known]
 by_cases c : n = 1
 ·rw [if_pos (by simpa using c)]; simp [c]
 ·rw [if_neg (by simpa using c)]
  congr 2
  by_cases d : n = 2
  ·simp [d]
  ·rw [decide_eq_false (fun q => q.elim c d)]; simpa using d
section
variable {k : Nat} {h : AHeap} {s : ByteArray}
end
end Ge
namespace Ge
open Go Gx
def idB (c : Nat) (t : List UInt8) : ByteArray := ⟨⟨digest (UInt8.ofNat c :: t)⟩⟩
def isK (n : Int) : Bool := decide (n = 1 ∨ n = 2)
noncomputable def idV (n : Int) (t : List UInt8) : ByteArray × Int := if isK n = true then (idB n.toNat t, 0) else (⟨#[]⟩, 1)
theorem wrapK {n : Int} (h : isK n = true) : Value.int .u8 (IntKind.wrap .u8 n) = encB (UInt8.ofNat n.toNat) := by
 unfold isK at h
 simp only [decide_eq_true_eq] at h
 rcases h with h | h <;> subst h <;> rfl
section
variable {k : Nat} {h : AHeap} {t : ByteArray} {n : Int}
theorem one_byte {h h2 : AHeap} {b : UInt8} (g : h2.get h.next = some (.cells [encB b] 5 true 0)) : bytesOf h2 ⟨some ⟨h.next, 0, some 0⟩, 1, 1⟩ = some ⟨⟨[b]⟩⟩ :=
 bytesOf_out (l := [b]) g
theorem cat_two (a b : ByteArray) : B.catL [a, b] = bl a ++ bl b := by simp [B.catL]
theorem two_row {h : AHeap} {b : Nat} {x y : ByteArray} (g : h.get b = some (.cells [.string x, .string y] 9 true 0)) (hl : b < h.next) : Row encS h ⟨some ⟨b, 0, some 0⟩, 2, 2⟩ [x, y] :=
 Row.of_block (enc := encS) (xs := [x, y]) g hl fun i z hz => by
  match i with
  | 0 => simp at hz; subst hz; rfl
  | 1 => simp at hz; subst hz; rfl
  | i + 2 => simp at hz
theorem idV_no {n : Int} {t : List UInt8} (h : isK n = false) : idV n t = (⟨#[]⟩, 1) := by unfold idV; rw [h]; rfl
theorem idV_yes {n : Int} {t : List UInt8} (h : isK n = true) : idV n t = (idB n.toNat t, 0) := by unfold idV; rw [if_pos h]
theorem bid_spec (D : CallF) (kg : KG 0 h) (ht : t.size ≤ 140737488351232) (hk : 200 ≤ k) (hk2 : t.size + 100 < 32 * k) :
  Gx.Wp (blob_Id k D n t h) fun z => z.1 = idV n (bl t) ∧ Keeps h z.2 := by
 simp only [blob_Id]
 refine .bnd (bknown_spec k D n h) ?_
 have hd : decide (n = 1 ∨ n = 2) = isK n := rfl
 rw [hd]
 cases hn : isK n with
 | false =>
  exact .ifp rfl (.of ⟨(idV_no hn).symm, Chg.refl _ _⟩)
 | true =>
  refine .ifn (by simp) (Wp.newE fun h2 e2 k2 n2 g2 => ?_)
  rw [wrapK hn] at g2
  refine .bnd (one_byte g2) (Wp.newE fun h4 e4 k4 n4 g4 => ?_)
  have kg4 : KG 0 h4 := (kg.chg k2 fun f => f).chg k4 fun f => f
  refine .call (B.sum_spec hk D kg4 (two_row g4 (by omega)) (by rw [cat_two, bl_mk, List.length_append, bl_length]; simp; omega) (by rw [cat_two, bl_mk, List.length_append, bl_length]; simp; omega) (by simp; omega) (by simp)) fun r5 ⟨q5, k5⟩ => .of ⟨?_, (k2.trans k4).trans k5⟩
  rw [q5, cat_two, bl_mk, idV_yes hn]; rfl
def encP (c : Nat) (t : List UInt8) : List UInt8 := if (packA t).length < t.length then UInt8.ofNat (c + 16) :: (leb t.length ++ packA t) else UInt8.ofNat c :: (leb t.length ++ t)
noncomputable def encV (n : Int) (t : ByteArray) : ByteArray × Int := if isK n = true then (if 65536 < t.size then (⟨#[]⟩, 2) else (⟨⟨encP n.toNat (bl t)⟩⟩, 0)) else (⟨#[]⟩, 1)
theorem wrapK16 {n : Int} (h : isK n = true) : Value.int .u8 (IntKind.wrap .u8 (Go.bits .or .i64 n 16)) = encB (UInt8.ofNat (n.toNat + 16)) := by
 unfold isK at h
 simp only [decide_eq_true_eq] at h
 rcases h with h | h <;> subst h <;> rfl
theorem ba3 (a b c : List UInt8) : ((⟨⟨a⟩⟩ : ByteArray) ++ (⟨⟨b⟩⟩ : ByteArray)) ++ (⟨⟨c⟩⟩ : ByteArray) = ⟨⟨a ++ (b ++ c)⟩⟩ := by
 apply bl_inj
 simp [bl]
theorem packL_len (s : List UInt8) : ∀ (f i kept : Nat) (es : List Fr) (out : List UInt8), kept ≤ i → i ≤ s.length → out.length ≤ 2 * kept → (packL s f i kept es out).length ≤ 2 * s.length + 2
 | 0, i, kept, es, out, h1, h2, h3 => by simp [packL]; omega
 | f + 1, i, kept, es, out, h1, h2, h3 => by
  unfold packL
  split
  ·split
   ·rename_i c4
    have sq := seqB_len (l := (s.take i).drop kept) (d := (bestF s i es).1) c4
    have sl2 : ((s.take i).drop kept).length = i - kept := by simp; omega
    refine packL_len s f _ _ _ _ (Nat.le_refl _) (by omega) ?_
    rw [List.length_append]; omega
   ·exact packL_len s f _ _ _ _ (by omega) (by omega) h3
  ·have h1 := numB_len (s.drop kept).length
   unfold seqB
   rw [if_neg (by omega)]
   simp only [List.length_append, List.length_cons, List.length_nil, List.length_drop] at h1 ⊢
   omega
theorem packA_len (l : List UInt8) : (packA l).length ≤ 2 * l.length + 2 := packL_len l _ 0 0 [] [] (Nat.le_refl _) (by omega) (by simp)
theorem encV_no {n : Int} (h : isK n = false) : encV n t = (⟨#[]⟩, 1) := by unfold encV; rw [h]; rfl
theorem encV_long {n : Int} (h : isK n = true) (c : 65536 < t.size) : encV n t = (⟨#[]⟩, 2) := by unfold encV; rw [if_pos h, if_pos c]
theorem encV_yes {n : Int} (h : isK n = true) (c : ¬ 65536 < t.size) : encV n t = (⟨⟨encP n.toNat (bl t)⟩⟩, 0) := by unfold encV; rw [if_pos h, if_neg c]
theorem encode_spec (D : CallF) (hk : 1200000 ≤ k) :
  Gx.Wp (blob_Encode k D n t h) fun z => z.1 = encV n t ∧ Keeps h z.2 := by
 simp only [blob_Encode]
 refine .bnd (bknown_spec k D n h) ?_
 have hd : decide (n = 1 ∨ n = 2) = isK n := rfl
 rw [hd]
 cases hn : isK n with
 | false => exact .ifp rfl (.of ⟨(encV_no hn).symm, Chg.refl _ _⟩)
 | true =>
  refine .ifn (by simp) ?_
  by_cases c : 65536 < t.size
  ·exact .ifp (by simp; omega) (.of ⟨(encV_long hn c).symm, Chg.refl _ _⟩)
  rw [encV_yes hn c]
  refine .ifn (by simp; omega) (.call (short_spec D (by omega) t.size (by omega) h) fun r2 ⟨q2, k2⟩ => .call (pack_spec D (by omega) (by omega)) fun r3 ⟨q3, k3⟩ => Wp.jn fun j10 h10 => ?_)
  have kz := k2.trans k3
  have bt : (bl t).length = t.size := bl_length t
  have ll : (leb t.size).length ≤ 3 := leb_len 2 t.size (by omega)
  have pl := packA_len (bl t)
  have J : ∀ y, y = decide ((packA (bl t)).length < (bl t).length) → Gx.Wp (j10 n t (bA (leb t.size)) ⟨⟨packA (bl t)⟩⟩ y r3.2) fun z => z.1 = ((⟨⟨encP n.toNat (bl t)⟩⟩ : ByteArray), (0 : Int)) ∧ Keeps h z.2 := fun y hy => by
   rw [h10]
   by_cases cc : (packA (bl t)).length < (bl t).length
   ·have ee : encP n.toNat (bl t) = UInt8.ofNat (n.toNat + 16) :: (leb t.size ++ packA (bl t)) := by unfold encP; rw [if_pos cc, bt]
    rw [ee]
    refine .ifp (by rw [hy]; simpa using cc) (Wp.newE fun h11 e11 k11 n11 g11 => ?_)
    rw [wrapK16 hn] at g11
    refine .bnd (one_byte g11) (.ifp ?_ (.ifp ?_ (.of ⟨?_, kz.trans k11⟩)))
    ·show 1 + (leb t.size).length ≤ _; omega
    ·rw [ByteArray.size_append]
     show 1 + (leb t.size).length + (packA (bl t)).length ≤ _
     omega
    ·show (((⟨⟨_⟩⟩ : ByteArray) ++ bA (leb t.size)) ++ (⟨⟨_⟩⟩ : ByteArray), (0 : Int)) = _
     rw [bA, ba3]; rfl
   ·have ee : encP n.toNat (bl t) = UInt8.ofNat n.toNat :: (leb t.size ++ bl t) := by unfold encP; rw [if_neg cc, bt]
    rw [ee]
    refine .ifn (by rw [hy]; simpa using cc) (Wp.newE fun h11 e11 k11 n11 g11 => ?_)
    rw [wrapK hn] at g11
    refine .bnd (one_byte g11) (.ifp ?_ (.ifp ?_ (.of ⟨?_, kz.trans k11⟩)))
    ·show 1 + (leb t.size).length ≤ _; omega
    ·rw [ByteArray.size_append]
     show 1 + (leb t.size).length + t.size ≤ _
     omega
    ·have := ba3 [UInt8.ofNat n.toNat] (leb t.size) (bl t)
     show (((⟨⟨_⟩⟩ : ByteArray) ++ bA (leb t.size)) ++ t, (0 : Int)) = _
     rw [bA]
     exact congrArg (·, (0 : Int)) this
  rw [q2, q3]
  exact .ifp rfl (J _ (by rw [bt, size_mk]; simp))
end
end Ge
namespace Ge
open Go Gx
section
variable {k : Nat} {h : AHeap} {s : ByteArray}
end
end Ge
namespace Ge
open Go Gx
section
variable {k : Nat} {h : AHeap} {s : ByteArray}
end
end Ge
namespace Ge
open Go Gx
theorem tru {x : Option (Bool × AHeap)} (w : Gx.Wp x fun z => z.1 = true) : ∃ h', x = some (true, h') := by
 obtain ⟨⟨b, h'⟩, e, q⟩ := w
 exact ⟨h', by rw [e, show b = true from q]⟩
end Ge
namespace Ge
open Go Gx
theorem encP_len {c : Nat} {t : List UInt8} (ht : t.length ≤ 65536) : (encP c t).length ≤ t.length + 4 ∧ 2 ≤ (encP c t).length := by
 have ll : (leb t.length).length ≤ 3 := leb_len 2 t.length (by omega)
 have l1 := leb_pos t.length
 unfold encP
 split
 ·simp only [List.length_cons, List.length_append]; omega
 ·simp only [List.length_cons, List.length_append]; omega
def amN (n : Nat) (x : Int) : Nat := (Int.tmod (Int.tmod x n + n) n).toNat
theorem amN_lt {n : Nat} (hn : 0 < n) (x : Int) : amN n x < n := by
 unfold amN
 have h2 : -(n : Int) < Int.tmod x n := by
  have := Int.lt_tmod_of_pos x (show (0 : Int) < n by omega)
  omega
 rw [Int.tmod_eq_emod_of_nonneg (by omega)]
 have := Int.emod_lt_of_pos (Int.tmod x n + n) (show (0 : Int) < n by omega)
 have := Int.emod_nonneg (Int.tmod x n + n) (show (n : Int) ≠ 0 by omega)
 omega
theorem among_eq {n : Nat} (hn : 0 < n) (hn2 : n < 1000000) (k : Nat) (D : CallF) (x : Int) (h : AHeap) : book_Among k D x (n : Int) h = some ((amN n x : Int), h) := by
 have h1 := Int.tmod_lt_of_pos x (show (0 : Int) < n by omega)
 have h2 : -(n : Int) < Int.tmod x n := by
  have := Int.lt_tmod_of_pos x (show (0 : Int) < n by omega)
  omega
 simp only [book_Among]
 rw [if_neg (by omega), if_neg (by omega), w64 _ (by omega)]
 have : 0 ≤ Int.tmod (Int.tmod x n + n) n := by
  rw [Int.tmod_eq_emod_of_nonneg (by omega)]; exact Int.emod_nonneg _ (by omega)
 unfold amN
 rw [Int.toNat_of_nonneg this]
section
variable {k : Nat} {h : AHeap} {t : ByteArray}
end
end Ge
namespace Ge
open Go Gx
theorem wstr {k pb o base : Nat} {H : AHeap} {c : List Value} {s : Slc} {l : List UInt8} {pv : Value} (D : CallF) (g : H.get pb = some (.cells c 105 true 0)) (hl : pb < H.next) (hpc : c[o]? = some pv) (hpv : pv = .pointer none ∨ pv = .pointer (some ⟨pb, o, none⟩))
  (hs : c[o + 1]? = some (.slice s.a s.len s.cap)) (ht : tabIn 105 o c.length ccTab = true) (A : Acc encB 5 base H s l) (ne : ∀ a, s.a = some a → a.block ≠ pb) (hb : base ≤ H.next) (x : ByteArray) (hx : 2 * (l.length + x.size) ≤ 281474976710656) :
  Gx.Wp (strings_Builder_WriteString k D (some ⟨pb, o, none⟩) x H) fun z => ∃ s', z.2.get pb = some (.cells ((c.set o (.pointer (some ⟨pb, o, none⟩))).set (o + 1) (.slice s'.a s'.len s'.cap)) 105 true 0) ∧ Acc encB 5 base z.2 s' (l ++ bl x) ∧ Chg (fun y => y = pb ∨ ofS s y) H z.2 ∧ (∀ a, s'.a = some a → H.next ≤ a.block ∨ ofS s a.block) ∧ H.next ≤ z.2.next := by
 simp only [strings_Builder_WriteString]
 have ho : o + 1 < c.length := (List.getElem?_eq_some_iff.1 hs).1
 obtain ⟨H1, e1, g1, c1⟩ : ∃ H1, ccA ccTab ⟨pb, o, none⟩ H = some H1 ∧ H1.get pb = some (.cells (c.set o (.pointer (some ⟨pb, o, none⟩))) 105 true 0) ∧ Chg (· = pb) H H1 := by
  rcases hpv with rfl | rfl
  ·refine ⟨_, ?_, sset_get _ _ _, Chg.set (.inr rfl)⟩
   ·unfold ccA
    simp only [g]
    rw [if_pos ⟨ht, trivial⟩]
    simp only [hpc]
    rw [st1_of g (by omega) rfl]
  ·have e : c.set o (.pointer (some ⟨pb, o, none⟩)) = c := by
    apply List.ext_getElem?
    intro j
    rw [List.getElem?_set]
    split
    ·rename_i h; subst h; rw [if_pos (by omega), hpc]
    ·rfl
   refine ⟨H, ?_, by rw [e]; exact g, .refl _ _⟩
   ·unfold ccA
    simp only [g]
    rw [if_pos ⟨ht, trivial⟩]
    simp [hpc]
 have nx1 := c1.nx
 have A1 : Acc encB 5 base H1 s l := A.chg c1 fun a ha e => ne a ha e
 obtain ⟨s', h5, a5, A5, c5, d5⟩ : ∃ s' h5, appendA 1 1 5 H1 s (bytesL x) x.size = some (s', h5) ∧ Acc encB 5 base h5 s' (l ++ bl x) ∧ Chg (ofS s) H1 h5 ∧ ∀ a, s'.a = some a → H1.next ≤ a.block ∨ ofS s a.block := by
  obtain ⟨s', h5, p1, p2, p3, p4⟩ := A1.app (fun _ => rfl) (bl x) (bytes := 1) (by have : (bl x).length = x.size := rfl; omega) (by decide) (by omega)
  exact ⟨s', h5, p1, p2, p3, fun a ha => (p4 a ha).imp id fun q => ⟨a, q, rfl⟩⟩
 have n5 := c5.nx
 have g5 := c5.got (show pb < H1.next by omega) (fun ⟨a, ha, e⟩ => ne a ha e.symm) g1
 have hs1 : (c.set o (.pointer (some ⟨pb, o, none⟩)))[o + 1]? = some (.slice s.a s.len s.cap) := by rw [List.getElem?_set_ne (by omega)]; exact hs
 refine .bnd rfl (.bnd e1 (.bnd rfl (.bnd (sldL_at g1 hs1) (.bnd a5 (.bnd rfl (.bnd (st1_of g5 (by simp; omega) rfl) (.of ?_)))))))
 have d5' : ∀ a, s'.a = some a → a.block ≠ pb := fun a ha e => by
  rcases d5 a ha with q | ⟨b, hb, q⟩
  ·omega
  ·exact ne b hb (q ▸ e)
 refine ⟨s', sset_get _ _ _, A5.chg (S := (· = pb)) (Chg.set (.inr rfl)) fun a ha e => d5' a ha e, ?_, fun a ha => (d5 a ha).imp (fun q => by omega) id, by show H.next ≤ h5.next; omega⟩
 exact Chg.beh (T := (· = pb)) (Chg.beh (T := ofS s) (c1.wk fun y _ e => .inl e) c5 fun y _ e => .inr e) (Chg.set (.inr rfl)) fun y _ e => .inl e
def sK (s : ByteArray) : Value := .string s
abbrev PSt := List UInt8 × List UInt8 × List It × List (ByteArray × ByteArray × Nat)
def pCells (p1 p2 : Value) (s1 s2 si : Slc) (lim : Int) (mb : Nat) : List Value :=
 [p1, .slice s1.a s1.len s1.cap, .int .i64 lim, p2, .slice s2.a s2.len s2.cap, .slice si.a si.len si.cap, .map (some mb)]
structure PB (H : AHeap) (pb mb : Nat) (s1 s2 si : Slc) (lim : Int) (q : PSt) : Prop where
 g : ∃ p1 p2, H.get pb = some (.cells (pCells p1 p2 s1 s2 si lim mb) 105 true 0) ∧ (p1 = .pointer none ∨ p1 = .pointer (some ⟨pb, 0, none⟩)) ∧ (p2 = .pointer none ∨ p2 = .pointer (some ⟨pb, 3, none⟩))
 A1 : Acc encB 5 (pb + 1) H s1 q.1
 A2 : Acc encB 5 (pb + 1) H s2 q.2.1
 A3 : AccW 6 itC 57 (pb + 1) H si q.2.2.1
 M : MapAt sK sK H mb q.2.2.2
 lt : pb < H.next
 mlt : pb < mb ∧ mb < H.next
 ap : ApartS s1 s2
section
variable {k pb mb : Nat} {H H' : AHeap} {s1 s2 si : Slc} {lim : Int} {q : PSt}
theorem PB.chg {S : Nat → Prop} (B : PB H pb mb s1 s2 si lim q) (c : Chg S H H') (hs : ∀ y, S y → y < pb ∨ H.next ≤ y) : PB H' pb mb s1 s2 si lim q := by
 have nx := c.nx
 have hm := B.mlt
 have hl := B.lt
 have no : ∀ y, pb ≤ y → y < H.next → ¬ S y := fun y h1 h2 h3 => by have := hs y h3; omega
 obtain ⟨p1, p2, g, h1, h2⟩ := B.g
 exact ⟨⟨p1, p2, c.got hl (no _ (Nat.le_refl _) hl) g, h1, h2⟩, B.A1.chg c fun a ha => no _ (by have := B.A1.lt a ha; omega) (B.A1.lt a ha).1, B.A2.chg c fun a ha => no _ (by have := B.A2.lt a ha; omega) (B.A2.lt a ha).1,
  B.A3.chg c fun a ha => no _ (by have := B.A3.lt a ha; omega) (B.A3.lt a ha).1, B.M.chg c hm.2 (no _ (by omega) hm.2), by omega, by omega, B.ap⟩
theorem PB.keeps (B : PB H pb mb s1 s2 si lim q) (c : Keeps H H') : PB H' pb mb s1 s2 si lim q := B.chg c fun _ f => f.elim
theorem acc_cells {base : Nat} {s : Slc} {l : List UInt8} {a : Addr} (A : Acc encB 5 base H s l) (ha : s.a = some a) : ∃ c, H.get a.block = some (.cells c 5 true 0) := by
 rcases A.st with ⟨h, _⟩ | ⟨b, g⟩
 ·rw [h] at ha; cases ha
 ·rw [g.s] at ha; cases ha; exact ⟨_, g.blk⟩
theorem accW_cells {base : Nat} {s : Slc} {l : List It} {a : Addr} (A : AccW 6 itC 57 base H s l) (ha : s.a = some a) : ∃ c, H.get a.block = some (.cells c 57 true 0) := by
 rcases A.st with ⟨h, _⟩ | ⟨b, h, g, _⟩
 ·rw [h] at ha; cases ha
 ·rw [h] at ha; cases ha; exact ⟨_, g⟩
theorem PB.ne13 (B : PB H pb mb s1 s2 si lim q) {s : Slc} {base : Nat} {l : List UInt8} (A : Acc encB 5 base H s l) {a : Addr} (ha : si.a = some a) : ¬ ofS s a.block := fun ⟨b, hb, e⟩ => by
 obtain ⟨c1, g1⟩ := acc_cells A hb
 obtain ⟨c2, g2⟩ := accW_cells B.A3 ha
 rw [e, g1] at g2
 cases g2
theorem PB.neM (B : PB H pb mb s1 s2 si lim q) {s : Slc} {base : Nat} {l : List UInt8} (A : Acc encB 5 base H s l) : ¬ ofS s mb := fun ⟨b, hb, e⟩ => by
 obtain ⟨c1, g1⟩ := acc_cells A hb
 have g2 : H.get mb = some (.map _ _) := B.M
 rw [e, g1] at g2
 cases g2
theorem PB.ld1 (B : PB H pb mb s1 s2 si lim q) : ldL ⟨pb, 0 + 0 + 0 + 1, none⟩ H = some s1 := by obtain ⟨p1, p2, g, _⟩ := B.g; exact sldL_at g rfl
theorem PB.ld2 (B : PB H pb mb s1 s2 si lim q) : ldL ⟨pb, 0 + 3 + 1, none⟩ H = some s2 := by obtain ⟨p1, p2, g, _⟩ := B.g; exact sldL_at g rfl
theorem PB.ld3 (B : PB H pb mb s1 s2 si lim q) : ldL ⟨pb, 0 + 5, none⟩ H = some si := by obtain ⟨p1, p2, g, _⟩ := B.g; exact sldL_at g rfl
theorem PB.ldl (B : PB H pb mb s1 s2 si lim q) : ldI .i64 ⟨pb, 0 + 2, none⟩ H = some lim := by obtain ⟨p1, p2, g, _⟩ := B.g; exact sldI_at g rfl
theorem PB.ldm (B : PB H pb mb s1 s2 si lim q) : ldM ⟨pb, 0 + 6, none⟩ H = some (some mb) := by obtain ⟨p1, p2, g, _⟩ := B.g; exact ldM_at g rfl
theorem PB.len1 (B : PB H pb mb s1 s2 si lim q) (D : CallF) : strings_Builder_Len k D (some ⟨pb, 0 + 0 + 0, none⟩) H = some ((q.1.length : Int), H) := by
 simp only [strings_Builder_Len]
 have : s1.len = q.1.length := B.A1.row.1
 exact bnd rfl (bnd B.ld1 (by rw [this]))
theorem PB.len2 (B : PB H pb mb s1 s2 si lim q) (D : CallF) : strings_Builder_Len k D (some ⟨pb, 0 + 3, none⟩) H = some ((q.2.1.length : Int), H) := by
 simp only [strings_Builder_Len]
 have : s2.len = q.2.1.length := B.A2.row.1
 exact bnd rfl (bnd B.ld2 (by rw [this]))
theorem ccT0 : tabIn 105 0 7 ccTab = true := by decide
theorem ccT3 : tabIn 105 3 7 ccTab = true := by decide
theorem PB.put1 (B : PB H pb mb s1 s2 si lim q) (D : CallF) (x : ByteArray) (hx : 2 * (q.1.length + x.size) ≤ 281474976710656) :
  Gx.Wp (strings_Builder_WriteString k D (some ⟨pb, 0 + 0 + 0, none⟩) x H) fun z => ∃ s', PB z.2 pb mb s' s2 si lim (q.1 ++ bl x, q.2.1, q.2.2.1, q.2.2.2) ∧ Chg (fun y => pb ≤ y) H z.2 := by
 obtain ⟨p1, p2, g, h1, h2⟩ := B.g
 have hm := B.mlt
 refine .mono (wstr (o := 0) D g B.lt rfl h1 rfl ccT0 B.A1 (fun a ha e => by have := (B.A1.lt a ha).2; omega) (by have := B.lt; omega) x hx) fun z ⟨s', g', A', c, d, nx⟩ => ?_
 have d' : ∀ a, s'.a = some a → ∀ b, s2.a = some b → a.block ≠ b.block := fun a ha b hb e => by
  rcases d a ha with w | ⟨a0, w1, w2⟩
  ·have := (B.A2.lt b hb).1; omega
  ·exact B.ap a0 b w1 hb (by rw [← w2, e])
 refine ⟨s', ⟨⟨_, p2, g', .inr rfl, h2⟩, A', B.A2.chg c fun a ha w => ?_, B.A3.chg c fun a ha w => ?_, B.M.chg c hm.2 fun w => ?_, by have := B.lt; omega, by omega, fun a b ha hb => d' a ha b hb⟩, c.wk fun y _ w => ?_⟩
 ·rcases w with w | ⟨a0, w1, w2⟩
  ·have := (B.A2.lt a ha).2; omega
  ·exact B.ap a0 a w1 ha w2.symm
 ·rcases w with w | w
  ·have := (B.A3.lt a ha).2; omega
  ·exact B.ne13 B.A1 ha w
 ·rcases w with w | w
  ·omega
  ·exact B.neM B.A1 w
 ·rcases w with w | ⟨a0, w1, w2⟩
  ·omega
  ·have := (B.A1.lt a0 w1).2; omega
theorem PB.put2 (B : PB H pb mb s1 s2 si lim q) (D : CallF) (x : ByteArray) (hx : 2 * (q.2.1.length + x.size) ≤ 281474976710656) :
  Gx.Wp (strings_Builder_WriteString k D (some ⟨pb, 0 + 3, none⟩) x H) fun z => ∃ s', PB z.2 pb mb s1 s' si lim (q.1, q.2.1 ++ bl x, q.2.2.1, q.2.2.2) ∧ Chg (fun y => pb ≤ y) H z.2 := by
 obtain ⟨p1, p2, g, h1, h2⟩ := B.g
 have hm := B.mlt
 refine .mono (wstr (o := 3) D g B.lt rfl h2 rfl ccT3 B.A2 (fun a ha e => by have := (B.A2.lt a ha).2; omega) (by have := B.lt; omega) x hx) fun z ⟨s', g', A', c, d, nx⟩ => ?_
 have d' : ∀ a, s'.a = some a → ∀ b, s1.a = some b → a.block ≠ b.block := fun a ha b hb e => by
  rcases d a ha with w | ⟨a0, w1, w2⟩
  ·have := (B.A1.lt b hb).1; omega
  ·exact B.ap b a0 hb w1 (by rw [← w2, e])
 refine ⟨s', ⟨⟨p1, _, g', h1, .inr rfl⟩, B.A1.chg c fun a ha w => ?_, A', B.A3.chg c fun a ha w => ?_, B.M.chg c hm.2 fun w => ?_, by have := B.lt; omega, by omega, fun a b ha hb e => d' b hb a ha e.symm⟩, c.wk fun y _ w => ?_⟩
 ·rcases w with w | ⟨a0, w1, w2⟩
  ·have := (B.A1.lt a ha).2; omega
  ·exact B.ap a a0 ha w1 w2
 ·rcases w with w | w
  ·have := (B.A3.lt a ha).2; omega
  ·exact B.ne13 B.A2 ha w
 ·rcases w with w | w
  ·omega
  ·exact B.neM B.A2 w
 ·rcases w with w | ⟨a0, w1, w2⟩
  ·omega
  ·have := (B.A2.lt a0 w1).2; omega
def magicB : List UInt8 := [71, 82, 84, 80, 1]
def st0P : PSt := (magicB, [], [], [])
theorem empty_spec (D : CallF) {c : List Value} (g : H.get pb = some (.cells c 105 true 0)) (hl : pb < H.next) {v0 v1 v3 v4 v5 v6 : Value} (hc : c = [v0, v1, .int .i64 lim, v3, v4, v5, v6]) :
  Gx.Wp (pack_Builder_empty k D (some ⟨pb, 0, none⟩) H) fun z => ∃ mb s1, PB z.2 pb mb s1 ⟨none, 0, 0⟩ ⟨none, 0, 0⟩ lim st0P ∧ Chg (· = pb) H z.2 := by
 subst hc
 simp only [pack_Builder_empty, strings_Builder_Reset]
 refine .bnd rfl (.call (P := fun z => z.2.get pb = some (.cells [.pointer none, .slice none 0 0, .int .i64 lim, v3, v4, v5, v6] 105 true 0) ∧ Chg (· = pb) H z.2 ∧ z.2.next = H.next) (.bnd rfl (Wp.st g (by simp) rfl fun h1 c1 n1 g1 => .bnd rfl (Wp.st g1 (by simp) rfl fun h2 c2 n2 g2 => .of ⟨g2, c1.trans c2, by show h2.next = _; omega⟩))) fun r1 ⟨g1, c1, n1⟩ => ?_)
 refine .bnd rfl (.call (P := fun z => z.2.get pb = some (.cells [.pointer none, .slice none 0 0, .int .i64 lim, .pointer none, .slice none 0 0, v5, v6] 105 true 0) ∧ Chg (· = pb) r1.2 z.2 ∧ z.2.next = r1.2.next) (.bnd rfl (Wp.st g1 (by simp) rfl fun h1 c1 n1 g1 => .bnd rfl (Wp.st g1 (by simp) rfl fun h2 c2 n2 g2 => .of ⟨g2, c1.trans c2, by show h2.next = _; omega⟩))) fun r4 ⟨g4, c4, n4⟩ => ?_)
 refine Wp.newE fun h5 e5 k5 n5 g5 => .bnd rfl ?_
 have gp5 := k5.got (show pb < r4.2.next by omega) g4
 refine Wp.st gp5 (by simp) rfl fun h7 c7 n7 g7 => .bnd rfl (Wp.st g7 (by simp) rfl fun h9 c9 n9 g9 => .bnd rfl ?_)
 have cz : Chg (· = pb) H h9 := (((c1.trans c4).trans (Chg.keeps k5)).trans c7).trans c9
 have gm : h9.get r4.2.next = some (.map [] 0) := c9.got (by omega) (show r4.2.next ≠ pb by omega) (c7.got (by omega) (show r4.2.next ≠ pb by omega) g5)
 have B : PB h9 pb r4.2.next ⟨none, 0, 0⟩ ⟨none, 0, 0⟩ ⟨none, 0, 0⟩ lim ([], [], [], []) :=
  ⟨⟨_, _, g9, .inl rfl, .inl rfl⟩, Acc.nil _ _ _ _, Acc.nil _ _ _ _, AccW.nil _ _ _ _ _, gm, by omega, by omega, fun a b ha => by cases ha⟩
 obtain ⟨p1, p2, g, h1, h2⟩ := B.g
 refine .call (P := fun z => ∃ s1, PB z.2 pb r4.2.next s1 ⟨none, 0, 0⟩ ⟨none, 0, 0⟩ lim st0P ∧ Chg (· = pb) H z.2) ?_ fun r11 ⟨s1, B', c'⟩ => .of ⟨_, s1, B', c'⟩
 refine .mono (wstr (o := 0) (s := ⟨none, 0, 0⟩) (l := []) D g B.lt rfl h1 rfl ccT0 B.A1 (fun a ha e => by cases ha) (by omega) ⟨#[71, 82, 84, 80, 1]⟩ (by decide)) fun z ⟨s', g', A', c, d, nx⟩ => ?_
 have c' : Chg (· = pb) h9 z.2 := c.wk fun y _ w => w.elim id fun ⟨a, ha, _⟩ => by cases ha
 refine ⟨s', ⟨⟨_, p2, g', .inr rfl, h2⟩, A', Acc.nil _ _ _ _, AccW.nil _ _ _ _ _, B.M.chg c' B.mlt.2 (by have := B.mlt; omega), by omega, by omega, fun a b ha hb => by cases hb⟩, cz.trans c'⟩
theorem new_spec14 (D : CallF) {h : AHeap} {lim : Int} :
  Gx.Wp (pack_New k D lim h) fun z => Keeps h z.2 ∧ if 64 ≤ lim ∧ lim ≤ 65536 then z.1 = (some ⟨h.next, 0, none⟩, 0) ∧ ∃ mb s1, PB z.2 h.next mb s1 ⟨none, 0, 0⟩ ⟨none, 0, 0⟩ lim st0P else z.1 = (none, 1) := by
 simp only [pack_New]
 refine Wp.jn fun j4 h4 => ?_
 have bad : ∀ y, y = true → ¬ (64 ≤ lim ∧ lim ≤ 65536) → Gx.Wp (j4 lim y h) fun z => Keeps h z.2 ∧ if 64 ≤ lim ∧ lim ≤ 65536 then z.1 = (some ⟨h.next, 0, none⟩, 0) ∧ ∃ mb s1, PB z.2 h.next mb s1 ⟨none, 0, 0⟩ ⟨none, 0, 0⟩ lim st0P else z.1 = (none, 1) := fun y hy hn => by
  rw [h4]
  exact .ifp hy (.of ⟨Chg.refl _ _, by rw [if_neg hn]⟩)
 by_cases c1 : lim < 64
 ·exact .ifp (by simpa using c1) (bad true rfl (by omega))
 refine .ifn (by simpa using c1) ?_
 by_cases c2 : lim > 65536
 ·exact bad _ (by simpa using c2) (by omega)
 rw [h4]
 refine .ifn (by simpa using c2) (Wp.newE fun h5 e5 k5 n5 g5 => .call (empty_spec (lim := lim) D g5 (by omega) rfl) fun r6 ⟨mb, s1, B, c⟩ => .of ⟨k5.keepsS c fun y hy => by have hy : y = h.next := hy; omega, ?_⟩)
 rw [if_pos (by omega)]
 exact ⟨rfl, mb, s1, B⟩
end
end Ge
namespace Ge
open Go Gx
def lineP (id : ByteArray) (c n m : Nat) : List UInt8 := bl id ++ (UInt8.ofNat c :: (leb n ++ leb m))
def longP (q : PSt) (blobs more : Nat) : Nat := q.1.length + (leb blobs).length + q.2.1.length + more + 8
def itP (q : PSt) (c : Nat) (t : ByteArray) : It := (idB c (bl t), ⟨#[]⟩, (c : Int), (q.1.length : Int), ((encP c (bl t)).length : Int), (t.size : Int))
def lineA (c : Nat) (t : ByteArray) : List UInt8 := lineP (idB c (bl t)) c (encP c (bl t)).length t.size
def longA (q : PSt) (c : Nat) (t : ByteArray) : Nat := longP q (q.2.2.1.length + 1) ((encP c (bl t)).length + (lineA c t).length)
def tooP (lim : Int) (q : PSt) (c : Nat) (t : ByteArray) : Bool := decide ((lim < (longA q c t : Int) ∧ 0 < q.2.2.1.length) ∨ 65536 < longA q c t ∨ 4096 ≤ q.2.2.1.length)
def addQ (q : PSt) (c : Nat) (t : ByteArray) : PSt := (q.1 ++ encP c (bl t), q.2.1 ++ lineA c t, q.2.2.1 ++ [itP q c t], ptM (idB c (bl t)) t q.2.2.2.length q.2.2.2)
noncomputable def addV (lim : Int) (q : PSt) (c : Nat) (t : ByteArray) : (ByteArray × Int) × PSt :=
 match lkM (idB c (bl t)) q.2.2.2 with
 | some _ => ((⟨#[]⟩, 6), q)
 | none => if tooP lim q c t = true then ((⟨#[]⟩, 2), q) else ((idB c (bl t), 0), addQ q c t)
section
variable {k pb mb : Nat} {H H' : AHeap} {s1 s2 si : Slc} {lim : Int} {q : PSt}
theorem pshort_spec (D : CallF) (hk : 20 ≤ k) (n : Nat) (hn : n < 9223372036854775808) (h : AHeap) : Gx.Wp (pack_short k D (n : Int) h) fun z => z.1 = bA (leb n) ∧ Keeps h z.2 := by
 simp only [pack_short]
 exact .call (short_spec D hk n hn h) fun r ⟨e, k1⟩ => .of ⟨by rw [e], k1⟩
theorem plong_spec (B : PB H pb mb s1 s2 si lim q) (D : CallF) (hk : 20 ≤ k) {n m : Nat} (hn : n ≤ 1000000) (hm : m ≤ 1000000) (h1 : q.1.length ≤ 1000000) (h2 : q.2.1.length ≤ 1000000) :
  Gx.Wp (pack_Builder_long k D (some ⟨pb, 0, none⟩) (n : Int) (m : Int) H) fun z => z.1 = (longP q n m : Int) ∧ Keeps H z.2 := by
 simp only [pack_Builder_long]
 refine .bnd rfl (.bnd (B.len1 D) (.call (pshort_spec D hk n (by omega) H) fun r3 ⟨e3, k3⟩ => .bnd rfl (.bnd ((B.keeps k3).len2 D) (.of ⟨?_, k3⟩))))
 rw [e3]
 have ll : (leb n).length ≤ 4 := leb_len 3 n (by omega)
 show IntKind.wrap .i64 (IntKind.wrap .i64 (IntKind.wrap .i64 (IntKind.wrap .i64 ((q.1.length : Int) + ((leb n).length : Int)) + (q.2.1.length : Int)) + (m : Int)) + 8) = _
 rw [Gx.w64 ((q.1.length : Int) + ((leb n).length : Int)) (by omega), Gx.w64 (((q.1.length : Int) + ((leb n).length : Int)) + (q.2.1.length : Int)) (by omega), Gx.w64 ((((q.1.length : Int) + ((leb n).length : Int)) + (q.2.1.length : Int)) + (m : Int)) (by omega), Gx.w64 _ (by omega)]
 unfold longP; omega
theorem PB.push (B : PB H pb mb s1 s2 si lim q) (x : It) (hl : q.2.2.1.length ≤ 100000) :
  ∃ s' h', appendA 6 64 57 (H.new (.cells (itC x) 57 true 0)) si (itC x) 1 = some (s', h') ∧ ∃ h2, st1 ⟨pb, 0 + 5, none⟩ (.slice s'.a s'.len s'.cap) h' = some h2 ∧ PB h2 pb mb s1 s2 s' lim (q.1, q.2.1, q.2.2.1 ++ [x], q.2.2.2) ∧ Chg (fun y => pb ≤ y) H h2 := by
 have hm := B.mlt
 have hlt := B.lt
 obtain ⟨s', h', a, A', c, d⟩ := B.A3.push itC_len itC_one x (bytes := 64) (by decide) (by omega) (by omega)
 have nx := c.nx
 obtain ⟨p1, p2, g, h1, h2⟩ := B.g
 have no : ∀ y, ofS si y → pb + 1 ≤ y ∧ y < H.next ∧ ∃ cc, H.get y = some (.cells cc 57 true 0) := fun y ⟨b, hb, e⟩ => by
  have := B.A3.lt b hb
  exact ⟨by omega, by omega, by rw [e]; exact accW_cells B.A3 hb⟩
 have g' := c.got hlt (fun w => by have := no _ w; omega) g
 have n1 : ∀ {s : Slc} {l : List UInt8} {z : Addr}, Acc encB 5 (pb + 1) H s l → s.a = some z → ¬ ofS si z.block := fun A hz w => by
  obtain ⟨_, _, cc, gg⟩ := no _ w
  obtain ⟨c1, g1⟩ := acc_cells A hz
  rw [g1] at gg; cases gg
 refine ⟨s', h', a, _, st1_of g' (by simp [pCells]) rfl, ⟨⟨p1, p2, by simp [pCells], h1, h2⟩, (B.A1.chg c fun z hz => n1 B.A1 hz).chg (S := (· = pb)) (Chg.set (.inr rfl)) fun z hz e => by have := (B.A1.lt z hz).2; have e : z.block = pb := e; omega,
  (B.A2.chg c fun z hz => n1 B.A2 hz).chg (S := (· = pb)) (Chg.set (.inr rfl)) fun z hz e => by have := (B.A2.lt z hz).2; have e : z.block = pb := e; omega,
  A'.chg (S := (· = pb)) (Chg.set (.inr rfl)) fun z hz e => by have := (A'.lt z hz).2; have e : z.block = pb := e; omega,
  (B.M.chg c hm.2 fun w => ?_).chg (S := (· = pb)) (Chg.set (.inr rfl)) (by omega) (by omega), by show pb < h'.next; omega, by show pb < mb ∧ mb < h'.next; omega, B.ap⟩, ?_⟩
 ·obtain ⟨_, _, cc, gg⟩ := no _ w
  have g2 : H.get mb = some (.map _ _) := B.M
  rw [gg] at g2; cases g2
 ·exact Chg.trans (c.wk fun y _ w => by have := no _ w; omega) (Chg.set (.inr (Nat.le_refl _)))
theorem PB.upd (B : PB H pb mb s1 s2 si lim q) (id t : ByteArray) : ∃ h', updE H mb (.string id) (.string t) = some h' ∧ PB h' pb mb s1 s2 si lim (q.1, q.2.1, q.2.2.1, ptM id t q.2.2.2.length q.2.2.2) ∧ Chg (fun y => pb ≤ y) H h' := by
 have hm := B.mlt
 have hlt := B.lt
 obtain ⟨h', u1, u2, u3, u4⟩ := B.M.upd (n := id) (fun e _ => keyEq_S id e.1) t
 obtain ⟨p1, p2, g, h1, h2⟩ := B.g
 have nM : ∀ {z : Nat} {c : List Value} {e : TypeId}, H.get z = some (.cells c e true 0) → ¬ z = mb := fun g w => by
  have g2 : H.get mb = some (.map _ _) := B.M
  rw [← w, g] at g2; cases g2
 refine ⟨h', u1, ⟨⟨p1, p2, u3.got hlt (by omega) g, h1, h2⟩, B.A1.chg u3 fun z hz => ?_, B.A2.chg u3 fun z hz => ?_, B.A3.chg u3 fun z hz => ?_, u2, by omega, by omega, B.ap⟩, u3.wk fun y _ e => by have e : y = mb := e; omega⟩
 ·obtain ⟨c, g⟩ := acc_cells B.A1 hz; exact nM g
 ·obtain ⟨c, g⟩ := acc_cells B.A2 hz; exact nM g
 ·obtain ⟨c, g⟩ := accW_cells B.A3 hz; exact nM g
theorem decA5 (a : ByteArray) (b c d e : Int) : decC [.s, .i .i64, .i .i64, .i .i64, .i .i64] [.string a, .int .i64 b, .int .i64 c, .int .i64 d, .int .i64 e] = some (a, b, c, d, e) := rfl
theorem add_spec14 (B : PB H pb mb s1 s2 si lim q) (D : CallF) (kg : KG 0 H) (hk : 1200000 ≤ k) {c : Nat} (hc : c = 1 ∨ c = 2) {t : ByteArray} (ht : t.size ≤ 65536) (hq1 : q.1.length ≤ 65536) (hq2 : q.2.1.length ≤ 65536) (hq3 : q.2.2.1.length ≤ 4096) :
  Gx.Wp (pack_Builder_Add k D (some ⟨pb, 0, none⟩) (c : Int) t H) fun z => z.1 = (addV lim q c t).1 ∧ ∃ s1' s2' si', PB z.2 pb mb s1' s2' si' lim (addV lim q c t).2 ∧ Chg (fun y => pb ≤ y) H z.2 := by
 simp only [pack_Builder_Add]
 have hn : isK (c : Int) = true := by unfold isK; simp only [decide_eq_true_eq]; omega
 have bt : (bl t).length = t.size := bl_length t
 obtain ⟨el1, el2⟩ := encP_len (c := c) (t := bl t) (by omega)
 refine .call (encode_spec D hk) fun r1 ⟨q1, k1⟩ => ?_
 rw [encV_yes hn (by omega), Int.toNat_natCast] at q1
 rw [q1]
 refine .ifn (by simp) (.call (bid_spec D (kg.chg k1 fun f => f) (by omega) (by omega) (by omega)) fun r2 ⟨q2, k2⟩ => ?_)
 rw [idV_yes hn, Int.toNat_natCast] at q2
 rw [q2]
 have k12 := k1.trans k2
 have B2 := B.keeps k12
 obtain ⟨s, es⟩ : ∃ s : List UInt8, s = encP c (bl t) := ⟨_, rfl⟩
 have ss : (⟨⟨s⟩⟩ : ByteArray).size = s.length := size_mk _
 rw [← es] at el1 el2
 have lk := B2.M.look (n := idB c (bl t)) (fun e _ => keyEq_S _ e.1) (dec := decS) (dv := fun v : ByteArray => v) (fun v => rfl) (z := .string ⟨#[]⟩) (z0 := ⟨#[]⟩) rfl
 refine .bnd rfl (.bnd B2.ldm (.bnd lk ?_))
 unfold addV
 cases hl : lkM (idB c (bl t)) q.2.2.2 with
 | some v =>
  refine .ifp rfl (.of ⟨rfl, s1, s2, si, B2, Chg.keeps k12⟩)
 | none =>
  refine .ifn (by decide) ?_
  dsimp only
  rw [← es]
  obtain ⟨h6, e6⟩ : ∃ h6, h6 = AHeap.resv r2.2 1 := ⟨_, rfl⟩
  have k6 : Keeps r2.2 h6 := ⟨by rw [e6]; show r2.2.next ≤ r2.2.next + 1; omega, fun b hb _ => by rw [e6]; rfl⟩
  rw [← e6]
  refine .call (pshort_spec D (by omega) s.length (by omega) h6) fun r7 ⟨q7, k7⟩ => .call (pshort_spec D (by omega) t.size (by omega) r7.2) fun r8 ⟨q8, k8⟩ => ?_
  rw [wrapK hn, Int.toNat_natCast, q7, q8]
  have k28 : Keeps r2.2 r8.2 := (k6.trans k7).trans k8
  obtain ⟨h9, e9⟩ : ∃ h9, h9 = AHeap.set r8.2 (r2.2.next + 0) (.cells [encB (UInt8.ofNat c)] 5 true 0) := ⟨_, rfl⟩
  have g9 : h9.get (r2.2.next + 0) = some (.cells [encB (UInt8.ofNat c)] 5 true 0) := by rw [e9]; simp
  have k9 : Keeps r2.2 h9 := by rw [e9]; exact Keeps.set k28 (by omega)
  rw [← e9]
  have ob : bytesOf h9 ⟨some ⟨r2.2.next + 0, 0, some 0⟩, 1, 1⟩ = some ⟨⟨[UInt8.ofNat c]⟩⟩ := bytesOf_out (l := [UInt8.ofNat c]) g9
  have l7 : (leb s.length).length ≤ 4 := leb_len 3 s.length (by omega)
  have l8 : (leb t.size).length ≤ 4 := leb_len 3 t.size (by omega)
  have ln : ((idB c (bl t) ++ (⟨⟨[UInt8.ofNat c]⟩⟩ : ByteArray)) ++ bA (leb s.length)) ++ bA (leb t.size) = ⟨⟨lineA c t⟩⟩ := by
   apply bl_inj
   rw [bl_mk]
   unfold lineA lineP
   rw [← es]
   simp [bl, bA]
  have lls : (lineA c t).length = 33 + (leb s.length).length + (leb t.size).length := by
   unfold lineA lineP
   rw [← es]
   simp only [List.length_append, List.length_cons]
   have : (bl (idB c (bl t))).length = 32 := rfl
   omega
  refine .bnd ob (.gp ⟨_, g9, fun H0 hH => bnd (show bytesOf H0 ⟨some ⟨r2.2.next + 0, 0, some 0⟩, 1, 1⟩ = some ⟨⟨[UInt8.ofNat c]⟩⟩ from bytesOf_out (l := [UInt8.ofNat c]) hH) rfl⟩ ?_)
  have i32 : (idB c (bl t)).size = 32 := rfl
  refine .ifp (show 32 + 1 ≤ _ by omega) (.ifp (show ((idB c (bl t) ++ (⟨⟨[UInt8.ofNat c]⟩⟩ : ByteArray)).size + (bA (leb s.length)).size ≤ _) by rw [ByteArray.size_append]; show 32 + 1 + (leb s.length).length ≤ _; omega)
   (.ifp (show (((idB c (bl t) ++ (⟨⟨[UInt8.ofNat c]⟩⟩ : ByteArray)) ++ bA (leb s.length)).size + (bA (leb t.size)).size ≤ _) by rw [ByteArray.size_append, ByteArray.size_append]; show 32 + 1 + (leb s.length).length + (leb t.size).length ≤ _; omega) ?_))
  rw [ln]
  have B9 := B2.keeps k9
  have kz := k12.trans k9
  refine .bnd rfl (.bnd B9.ld3 ?_)
  have sil : si.len = q.2.2.1.length := (B9.A3.row itC_len).len
  rw [sil, Gx.w1 (by omega), show (⟨⟨lineA c t⟩⟩ : ByteArray).size = (lineA c t).length from size_mk _, ss, show IntKind.wrap .i64 ((s.length : Int) + ((lineA c t).length : Int)) = ((s.length + (lineA c t).length : Nat) : Int) by rw [Gx.w64 _ (by omega)]; omega]
  refine .call (plong_spec B9 D (by omega) (by omega) (by omega) (by omega) (by omega)) fun r16 ⟨q16, k16⟩ => Wp.jn fun j25 h25 => ?_
  have eL : longP q (q.2.2.1.length + 1) (s.length + (lineA c t).length) = longA q c t := by unfold longA; rw [← es]
  rw [eL] at q16
  rw [q16]
  have B16 := B9.keeps k16
  have kH16 := kz.trans k16
  have J : ∀ y, y = tooP lim q c t → Gx.Wp (j25 (some ⟨pb, 0, none⟩) (c : Int) t (idB c (bl t)) ⟨⟨s⟩⟩ ⟨⟨lineA c t⟩⟩ y r16.2) fun z => z.1 = (if tooP lim q c t = true then (((⟨#[]⟩ : ByteArray), (2 : Int)), q) else ((idB c (bl t), 0), addQ q c t)).1 ∧ ∃ s1' s2' si', PB z.2 pb mb s1' s2' si' lim (if tooP lim q c t = true then (((⟨#[]⟩ : ByteArray), (2 : Int)), q) else ((idB c (bl t), 0), addQ q c t)).2 ∧ Chg (fun y => pb ≤ y) H z.2 := fun y hy => by
   rw [h25]
   cases hT : tooP lim q c t with
   | true => exact .ifp (hy.trans hT) (.of ⟨rfl, s1, s2, si, B16, Chg.keeps kH16⟩)
   | false =>
    have hbig : longA q c t ≤ 65536 ∧ q.2.2.1.length < 4096 := by
     unfold tooP at hT
     simp only [decide_eq_false_iff_not] at hT
     omega
    have hlong : q.1.length + q.2.1.length + s.length + (lineA c t).length ≤ 65536 := by
     have := hbig.1
     unfold longA longP at this
     rw [← es] at this
     omega
    refine .ifn (by rw [hy, hT]; decide) (.bnd rfl (.bnd (B16.len1 D) (Wp.newE fun h28 e28 k28' n28 g28 => Wp.stL g28 rfl rfl rfl (by decide) fun h29 c29 n29 g29 => ?_)))
    have k29 : Keeps r16.2 h29 := k28'.keepsS c29 fun y hy => by have hy : y = r16.2.next := hy; omega
    have B29 := B16.keeps k29
    refine .bnd (sldA_at g29 rfl) (.bnd (decA5 _ _ _ _ _) (Wp.newE fun h32 e32 k32 n32 g32 => ?_))
    obtain ⟨x, ex⟩ : ∃ x : It, x = itP q c t := ⟨_, rfl⟩
    have exc : itC x = [.string (idB c (bl t)), .string ⟨#[]⟩, .int .i64 (c : Int), .int .i64 (q.1.length : Int), .int .i64 (s.length : Int), .int .i64 (t.size : Int)] := by rw [ex, es]; rfl
    have e32' : h32 = h29.new (.cells (itC x) 57 true 0) := by rw [e32, exc]; rfl
    have B32 := B29.keeps k32
    refine .bnd rfl (.bnd B32.ld3 (.gp (ssw1 (by dsimp only; rw [B29.ld3]; rfl)) ?_))
    obtain ⟨s', h', a, h2, b, B2', c2'⟩ := B29.push x (by omega)
    rw [← e32'] at a
    have er : Gx.rdS 6 ⟨some ⟨h29.next, 0, some 0⟩, 1, 1⟩ h32 = some (itC x) := by rw [e32']; exact rdS_oneW itC_len x 57
    refine .bnd er (.bnd a (.bnd rfl (.bnd b (.bnd rfl (.bnd B2'.ldm (.bnd rfl ?_))))))
    obtain ⟨h43, u, B43, c43⟩ := B2'.upd (idB c (bl t)) t
    refine .bnd u (.bnd rfl (.call (B43.put1 D ⟨⟨s⟩⟩ (by rw [ss]; show 2 * (q.1.length + s.length) ≤ _; omega)) fun r46 ⟨s1', B46, c46⟩ => .bnd rfl (.call (B46.put2 D ⟨⟨lineA c t⟩⟩ (by rw [size_mk]; show 2 * (q.2.1.length + (lineA c t).length) ≤ _; omega)) fun r48 ⟨s2', B48, c48⟩ => .of ⟨rfl, s1', s2', s', ?_, ?_⟩)))
    ·rw [bl_mk, bl_mk] at B48
     have : (addQ q c t) = (q.1 ++ s, q.2.1 ++ lineA c t, q.2.2.1 ++ [x], ptM (idB c (bl t)) t q.2.2.2.length q.2.2.2) := by unfold addQ; rw [ex, es]
     rw [if_neg (by decide), this]
     exact B48
    ·exact ((((Chg.keeps (kH16.trans k29)).trans c2').trans c43).trans c46).trans c48
  have eT : tooP lim q c t = decide ((lim < (longA q c t : Int) ∧ 0 < q.2.2.1.length) ∨ 65536 < longA q c t ∨ 4096 ≤ q.2.2.1.length) := rfl
  refine .bnd rfl (.bnd B16.ldl ?_)
  by_cases c1 : (longA q c t : Int) > lim
  ·refine .ifp (by simpa using c1) (.bnd rfl (.bnd B16.ld3 ?_))
   rw [sil]
   by_cases c2 : 0 < q.2.2.1.length
   ·exact .ifp (decide_eq_true (show ((q.2.2.1.length : Int) > 0) by omega)) (J _ (by rw [eT, decide_eq_true (.inl ⟨c1, c2⟩)]))
   ·refine .ifn (fun w => by have w : ((q.2.2.1.length : Int) > 0) := of_decide_eq_true w; omega) ?_
    by_cases c3 : 65536 < longA q c t
    ·exact .ifp (by simp; omega) (J _ (by rw [eT, decide_eq_true (.inr (.inl c3))]))
    ·refine .ifn (by simp; omega) (.bnd rfl (.bnd B16.ld3 (J _ ?_)))
     rw [eT, sil]
     apply decide_eq_decide.2
     omega
  ·refine .ifn (by simpa using c1) ?_
   by_cases c3 : 65536 < longA q c t
   ·exact .ifp (by simp; omega) (J _ (by rw [eT, decide_eq_true (.inr (.inl c3))]))
   ·refine .ifn (by simp; omega) (.bnd rfl (.bnd B16.ld3 (J _ ?_)))
    rw [eT, sil]
    apply decide_eq_decide.2
    omega
end
end Ge
namespace Ge
open Go Gx
theorem bstr {k pb o base : Nat} {H : AHeap} {c : List Value} {e : TypeId} {s : Slc} {l : List UInt8} (D : CallF) (g : H.get pb = some (.cells c e true 0)) (hs : c[o + 1]? = some (.slice s.a s.len s.cap)) (A : Acc encB 5 base H s l) (hl : l.length < 9223372036854775808) :
  Gx.Wp (strings_Builder_String k D (some ⟨pb, o, none⟩) H) fun z => z.1 = bA l ∧ Chg (ofS s) H z.2 ∧ z.2.next = H.next := by
 simp only [strings_Builder_String]
 have hsl : s.len = l.length := A.row.1
 have gl : ldL ⟨pb, o + 1, none⟩ H = some s := sldL_at g hs
 rcases A.st with ⟨rfl, rfl⟩ | ⟨b, gg⟩
 ·refine .bnd rfl (.bnd gl (.bnd rfl (.bnd rfl (.bnd gl (.bnd (show unsA 5 none ((0 : Nat) : Int) H = some (⟨#[]⟩, H) from rfl) (.of ⟨rfl, .refl _ _, rfl⟩))))))
 ·have gb : H.get b = some (.cells (l.map encB) 5 true 0) := gg.blk
  have hp : 0 < l.length := List.length_pos_iff.2 gg.ne
  have e1 : sliceP s = some (some ⟨b, 0, none⟩) := by
   rw [gg.s]
   unfold sliceP
   have : Nat.beq l.length 0 = false := by
    cases c : Nat.beq l.length 0 with
    | false => rfl
    | true => have := Nat.eq_of_beq_eq_true c; omega
   simp only [this, cond_false]
  have e2 : unsA 5 (some ⟨b, 0, none⟩) (s.len : Int) H = some (bA l, H.set b (.cells (l.map encB) 5 true (max 0 l.length))) := by
   unfold unsA
   rw [hsl, if_neg (by omega)]
   simp only [gb]
   rw [if_pos ⟨trivial, by omega, by omega, trivial, by simp, by omega⟩, Int.toNat_natCast, List.take_of_length_le (by simp), unbytesS_map]
   rfl
  exact .bnd rfl (.bnd gl (.bnd e1 (.bnd rfl (.bnd gl (.bnd e2 (.of ⟨rfl, Chg.set (.inr ⟨⟨b, 0, some 2⟩, by rw [gg.s], rfl⟩), rfl⟩))))))
def endB : List UInt8 := [80, 69, 78, 68]
def dirB (q : PSt) : List UInt8 := leb q.2.2.1.length ++ q.2.1
def finB (q : PSt) : List UInt8 := q.1 ++ (dirB q ++ (Ge.B.fixL (dirB q).length 4 ++ endB))
def setP (id : ByteArray) (x : It) : It := (x.1, id, x.2.2)
noncomputable def finI (q : PSt) : List It := q.2.2.1.map (setP ⟨⟨digest (finB q)⟩⟩)
theorem flat_setP (id : ByteArray) : ∀ (xs : List It) (i : Nat) (x : It), xs[i]? = some x → (xs.flatMap itC).set (i * 6 + 1) (.string id) = (xs.set i (setP id x)).flatMap itC
 | [], i, x, h => by simp at h
 | y :: ys, 0, x, h => by simp at h; subst h; rfl
 | y :: ys, i + 1, x, h => by
  rw [List.flatMap_cons, List.set_cons_succ, List.flatMap_cons, List.set_append_right _ _ (by rw [itC_len]; omega), itC_len, show (i + 1) * 6 + 1 - 6 = i * 6 + 1 by omega, flat_setP id ys i x (by simpa using h)]
section
variable {k pb mb : Nat} {H H' : AHeap} {s1 s2 si : Slc} {lim : Int} {q : PSt}
theorem fin_loop (D : CallF) {j20 : (Option Addr) → ByteArray → Slc → AHeap → Option ((ByteArray × Slc) × AHeap)} {Q : (ByteArray × Slc) × AHeap → Prop} {b : Option Addr} {s id : ByteArray} {h0 : AHeap} {ib : Nat} {its : List It} (hl : its.length ≤ 100000) (bot) :
  ∀ (d i : Nat) (H : AHeap), i + d = its.length → H.get ib = some (.cells (((its.take i).map (setP id) ++ its.drop i).flatMap itC) 57 true 0) → Chg (· = ib) h0 H → H.next = h0.next →
  (∀ H', H'.get ib = some (.cells ((its.map (setP id)).flatMap itC) 57 true 0) → Chg (· = ib) h0 H' → H'.next = h0.next → Gx.Wp (j20 b s ⟨some ⟨ib, 0, some 7⟩, its.length, its.length⟩ H') Q) →
  Gx.Wp (iterK bot (d + 1) (pack_Builder_Finish_l0b k D j20) b s ⟨some ⟨ib, 0, some 7⟩, its.length, its.length⟩ id (its.length : Int) (i : Int) H) Q := by
 intro d
 induction d with
 | zero =>
  intro i H hd g c n J
  rw [iterK_s]; simp only [pack_Builder_Finish_l0b]
  refine .ifn (by simp; omega) (J H ?_ c n)
  rw [List.take_of_length_le (by omega), List.drop_of_length_le (by omega), List.append_nil] at g
  exact g
 | succ d ih =>
  intro i H hd g c n J
  rw [iterK_s]; simp only [pack_Builder_Finish_l0b]
  obtain ⟨x, hx⟩ := isome (l := its) (i := i) (by omega)
  have ei : idxL 6 (⟨some ⟨ib, 0, some 7⟩, its.length, its.length⟩ : Slc) (i : Int) = some ⟨ib, i * 6, none⟩ := by
   simp only [idxL]
   rw [if_pos (by omega), Int.toNat_natCast, Nat.zero_add]
  refine .ifp (by simp; omega) (.bnd ei ?_)
  have hL : ((its.take i).map (setP id) ++ its.drop i)[i]? = some x := by
   have l1 : ((its.take i).map (setP id)).length = i := by rw [List.length_map, List.length_take]; omega
   rw [List.getElem?_append_right (by rw [l1]; exact Nat.le_refl _), l1, Nat.sub_self, List.getElem?_drop, Nat.add_zero]
   exact hx
  have hset := flat_setP id _ i x hL
  have hn : ((its.take i).map (setP id) ++ its.drop i).set i (setP id x) = (its.take (i + 1)).map (setP id) ++ its.drop (i + 1) := by
   have l1 : ((its.take i).map (setP id)).length = i := by rw [List.length_map, List.length_take]; omega
   rw [List.set_append_right _ _ (by rw [l1]; exact Nat.le_refl _), l1, Nat.sub_self, dropc hx, List.set_cons_zero, List.take_add_one, hx, List.map_append, List.append_assoc]
   rfl
  refine Wp.st g ?_ rfl fun H1 c1 n1 g1 => ?_
  ·rw [flatW_length itC_len, List.length_append, List.length_map, List.length_take, List.length_drop]
   show i * 6 + 1 + 0 < _
   rw [show min i its.length + (its.length - i) = its.length by omega]; omega
  ·rw [Nat.add_zero, hset, hn] at g1
   rw [Gx.w1 (by omega)]
   exact ih (i + 1) H1 (by omega) g1 (c.trans c1) (by omega) J
theorem finish_spec (B : PB H pb mb s1 s2 si lim q) (D : CallF) (kg : KG 0 H) (hp : 0 < pb) (hk : 1200000 ≤ k) (hq1 : q.1.length ≤ 65536) (hq2 : q.2.1.length ≤ 65536) (hq3 : q.2.2.1.length ≤ 4096) :
  Gx.Wp (pack_Builder_Finish k D (some ⟨pb, 0, none⟩) H) fun z =>
   if q.2.2.1 = [] then z.1 = (⟨#[]⟩, ⟨none, 0, 0⟩) ∧ z.2 = H
   else z.1 = (⟨⟨finB q⟩⟩, si) ∧ AccW 6 itC 57 (pb + 1) z.2 si (finI q) ∧ (∃ mb' s1', PB z.2 pb mb' s1' ⟨none, 0, 0⟩ ⟨none, 0, 0⟩ lim st0P) ∧ Chg (fun y => pb ≤ y) H z.2 := by
 simp only [pack_Builder_Finish]
 have sil : si.len = q.2.2.1.length := (B.A3.row itC_len).len
 refine .bnd rfl (.bnd B.ld3 ?_)
 rw [sil]
 by_cases c0 : q.2.2.1 = []
 ·refine .ifp (by rw [c0]; rfl) (.of ?_)
  rw [if_pos c0]; exact ⟨rfl, rfl⟩
 have hlen : 0 < q.2.2.1.length := List.length_pos_iff.2 c0
 refine .ifn (fun w => absurd (eq_of_beq w) (by omega)) ?_
 suffices hh : Gx.Wp _ fun z : (ByteArray × Slc) × AHeap => z.1 = (⟨⟨finB q⟩⟩, si) ∧ AccW 6 itC 57 (pb + 1) z.2 si (finI q) ∧ (∃ mb' s1', PB z.2 pb mb' s1' ⟨none, 0, 0⟩ ⟨none, 0, 0⟩ lim st0P) ∧ Chg (fun y => pb ≤ y) H z.2 from hh.mono fun z hz => by rw [if_neg c0]; exact hz
 refine .bnd rfl (.bnd B.ld3 ?_)
 rw [sil]
 have ll : (leb q.2.2.1.length).length ≤ 4 := leb_len 3 _ (by omega)
 refine .call (pshort_spec D (by omega) q.2.2.1.length (by omega) H) fun r5 ⟨q5, k5⟩ => ?_
 have B5 := B.keeps k5
 obtain ⟨p1, p2, g5, h1, h2⟩ := B5.g
 refine .bnd rfl (.call (bstr (o := 3) D g5 rfl B5.A2 (by omega)) fun r7 ⟨q7, c7, n7⟩ => ?_)
 have lt5 := B5.lt
 have g7 := c7.got lt5 (fun ⟨a, ha, e⟩ => by have := (B5.A2.lt a ha).2; omega) g5
 have A17 : Acc encB 5 (pb + 1) r7.2 s1 q.1 := B5.A1.chg c7 fun a ha ⟨b, hb, e⟩ => B5.ap a b ha hb e
 have A37 : AccW 6 itC 57 (pb + 1) r7.2 si q.2.2.1 := B5.A3.chg c7 fun a ha => B5.ne13 B5.A2 ha
 have ed : r5.1 ++ r7.1 = ⟨⟨dirB q⟩⟩ := by rw [q5, q7]; exact Ge.B.ba_app _ _
 have ld : (dirB q).length = (leb q.2.2.1.length).length + q.2.1.length := List.length_append
 refine .ifp (by rw [q5, q7]; show (leb q.2.2.1.length).length + q.2.1.length ≤ _; omega) ?_
 rw [ed, show (⟨⟨dirB q⟩⟩ : ByteArray).size = (dirB q).length from size_mk _]
 obtain ⟨h8, e8, k8⟩ := Ge.B.nfix_spec (kf := k) (by omega) D (dirB q).length 4 r7.2 (by omega) (by omega) (by omega)
 rw [if_pos (by omega)] at e8
 refine .bnd e8 ?_
 have g8 := k8.got (by omega) g7
 have A18 := A17.keeps k8
 have A38 := A37.keeps k8
 refine .bnd rfl (.call (bstr (o := 0) D g8 rfl A18 (by omega)) fun r10 ⟨q10, c10, n10⟩ => ?_)
 have n8 := k8.nx
 have n10 : r10.2.next = h8.next := n10
 have n8' : r7.2.next ≤ h8.next := n8
 have g10 := c10.got (show pb < h8.next by omega) (fun ⟨a, ha, e⟩ => by have := (A18.lt a ha).2; omega) g8
 have A310 : AccW 6 itC 57 (pb + 1) r10.2 si q.2.2.1 := A38.chg c10 fun a ha ⟨b, hb, e⟩ => by
  obtain ⟨c1, g1⟩ := acc_cells A18 hb
  obtain ⟨c2, g2⟩ := accW_cells A38 ha
  rw [e, g1] at g2; cases g2
 have fl : (Ge.B.fixL (dirB q).length 4).length = 4 := Ge.B.fixL_length _ _
 have ef : ((r10.1 ++ (⟨⟨dirB q⟩⟩ : ByteArray)) ++ (⟨⟨Ge.B.fixL (dirB q).length 4⟩⟩ : ByteArray)) ++ (⟨#[80, 69, 78, 68]⟩ : ByteArray) = ⟨⟨finB q⟩⟩ := by
  rw [q10]
  apply bl_inj
  rw [bl_mk]
  unfold finB
  simp [bl, bA, endB]
 refine .ifp (by rw [q10]; show q.1.length + (dirB q).length ≤ _; omega) (.ifp (by rw [q10, ByteArray.size_append]; show q.1.length + (dirB q).length + (Ge.B.fixL (dirB q).length 4).length ≤ _; omega)
  (.ifp (by rw [q10, ByteArray.size_append, ByteArray.size_append]; show q.1.length + (dirB q).length + (Ge.B.fixL (dirB q).length 4).length + 4 ≤ _; omega) ?_))
 dsimp only
 rw [ef]
 have lF : (finB q).length = q.1.length + ((dirB q).length + (4 + 4)) := by unfold finB; simp only [List.length_append, fl]; rfl
 refine Wp.newE fun h12 e12 k12 n12 g12 => ?_
 have R12 : Row encS h12 ⟨some ⟨r10.2.next, 0, some 0⟩, 1, 1⟩ [⟨⟨finB q⟩⟩] := Row.of_block (enc := encS) (xs := [⟨⟨finB q⟩⟩]) g12 (by omega) fun i z hz => by
  match i with
  | 0 => simp at hz; subst hz; rfl
  | i + 1 => simp at hz
 have kg12 : KG 0 h12 := by
  refine KG.chg (KG.chg (KG.chg (KG.chg (KG.chg kg k5 fun f => f) c7 fun ⟨a, ha, e⟩ => ?_) k8 fun f => f) c10 fun ⟨a, ha, e⟩ => ?_) k12 fun f => f
  ·have := (B5.A2.lt a ha).2; omega
  ·have := (A18.lt a ha).2; omega
 have ec : Ge.B.catL [(⟨⟨finB q⟩⟩ : ByteArray)] = finB q := by simp [Ge.B.catL, bl]
 refine .call (Ge.B.sum_spec (by omega) D kg12 R12 (by rw [ec]; omega) (by rw [ec]; omega) (by simp; omega) (by simp)) fun r13 ⟨q13, k13⟩ => ?_
 rw [ec] at q13
 have g13 := Keeps.got (k12.trans k13) (by omega) g10
 have A313 := A310.keeps (k12.trans k13)
 refine .bnd rfl (.bnd (sldL_at g13 rfl) (Wp.jn fun j20 h20 => ?_))
 rw [q13, show (⟨si.a, si.len, si.cap⟩ : Slc) = si from rfl, sil]
 rcases A313.st with ⟨_, w⟩ | ⟨ib, e1, e2, e3⟩
 ·exact absurd w c0
 have hib := A313.lt ⟨ib, 0, some 7⟩ (by rw [e1])
 rw [e1]
 unfold pack_Builder_Finish_l0
 obtain ⟨bot, eb⟩ := iterK_of (fun _ _ _ _ _ _ _ => none) (pack_Builder_Finish_l0b k D j20) (show q.2.2.1.length + 1 ≤ k by omega)
 rw [eb, show (0 : Int) = ((0 : Nat) : Int) from rfl]
 have n12' := k12.nx
 have n13 := k13.nx
 refine fin_loop D (h0 := r13.2) (by omega) bot q.2.2.1.length 0 r13.2 (by omega) (by rw [List.take_zero, List.map_nil, List.nil_append, List.drop_zero]; exact e2) (Chg.refl _ _) rfl fun H' g' c' n' => ?_
 rw [h20]
 have gp := c'.got (by omega) (by have := hib.2; show ¬ pb = ib; simp only [] at this; omega) g13
 refine .call (empty_spec (lim := lim) D gp (by omega) rfl) fun r21 ⟨mb', s1', B', c21⟩ => .of ⟨rfl, ⟨.inr ⟨ib, by simp [finI], ?_, by simp [finI, c0]⟩, fun a ha => ?_⟩, ⟨mb', s1', B'⟩, ?_⟩
 ·have hib2 := hib.2
  simp only [] at hib2
  exact c21.got (by have := hib.1; simp only [] at this; omega) (show ¬ ib = pb by omega) g'
 ·cases ha
  have n21 := c21.nx
  have := hib.1; have := hib.2
  simp only [] at *
  omega
 ·have w : ∀ {s : Slc} {h h' : AHeap} {l : List UInt8}, Acc encB 5 (pb + 1) h s l → Chg (ofS s) h h' → Chg (fun y => pb ≤ y) h h' := fun A c => c.wk fun y _ ⟨a, ha, e⟩ => by have := (A.lt a ha).2; omega
  have hib2 := hib.2
  simp only [] at hib2
  exact ((((((Chg.keeps k5).trans (w B5.A2 c7)).trans (Chg.keeps k8)).trans (w A18 c10)).trans (Chg.keeps (k12.trans k13))).trans (c'.wk fun y _ e => by have e : y = ib := e; omega)).trans (c21.wk fun y _ e => by have e : y = pb := e; omega)
end
end Ge
namespace Ge
open Go Gx
section
variable {k : Nat} {h : AHeap}
def q14 : PSt := addQ st0P 1 ⟨#[97, 98]⟩
theorem enc_ab : encP 1 (bl ⟨#[97, 98]⟩) = [1, 2, 97, 98] := by decide +kernel
theorem leb1 : (leb 1).length = 1 := by rw [leb_lt (by omega)]; rfl
theorem leb4 : (leb 4).length = 1 := by rw [leb_lt (by omega)]; rfl
theorem leb2 : (leb 2).length = 1 := by rw [leb_lt (by omega)]; rfl
theorem line_ab : (lineA 1 ⟨#[97, 98]⟩).length = 35 := by
 unfold lineA lineP
 rw [enc_ab]
 simp only [List.length_append, List.length_cons, List.length_nil]
 have e : (bl (idB 1 (bl ⟨#[97, 98]⟩))).length = 32 := rfl
 have e2 : (⟨#[97, 98]⟩ : ByteArray).size = 2 := rfl
 rw [e, e2, leb4, leb2]
theorem add_ab : addV 64 st0P 1 ⟨#[97, 98]⟩ = ((idB 1 (bl ⟨#[97, 98]⟩), 0), q14) := by
 have hL : longA st0P 1 ⟨#[97, 98]⟩ = 53 := by
  unfold longA longP
  rw [line_ab, enc_ab]
  show 5 + (leb 1).length + 0 + (4 + 35) + 8 = 53
  rw [leb1]
 have hT : tooP 64 st0P 1 ⟨#[97, 98]⟩ = false := by
  unfold tooP
  refine decide_eq_false ?_
  rw [hL]
  show ¬ ((64 < ((53 : Nat) : Int) ∧ 0 < 0) ∨ 65536 < 53 ∨ 4096 ≤ 0)
  decide
 have hN : lkM (idB 1 (bl ⟨#[97, 98]⟩)) st0P.2.2.2 = none := rfl
 unfold addV
 rw [hN]
 simp only []
 rw [hT, if_neg (by decide)]; rfl
theorem fin_ab : (finB q14).length = 53 := by
 unfold finB dirB
 simp only [List.length_append, Ge.B.fixL_length]
 have e1 : q14.1.length = 9 := by
  show (magicB ++ encP 1 (bl ⟨#[97, 98]⟩)).length = 9
  rw [enc_ab]; rfl
 have e2 : q14.2.1.length = 35 := by
  show ([] ++ lineA 1 ⟨#[97, 98]⟩).length = 35
  rw [List.nil_append, line_ab]
 have e3 : q14.2.2.1.length = 1 := rfl
 rw [e1, e2, e3, leb1]; rfl
theorem works14 (D : CallF) (kg : KG 0 h) (hk : 1200000 ≤ k) : Gx.Wp (law14_works k D h) fun z => z.1 = true ∧ Keeps h z.2 := by
 simp only [law14_works]
 refine .call (new_spec14 (lim := 64) D) fun r1 ⟨k1, q1⟩ => Wp.jn fun j5 h5 => ?_
 rw [if_pos (by decide)] at q1
 obtain ⟨q1, mb, s1, B⟩ := q1
 rw [q1]
 refine .ifn (by simp) ?_
 rw [h5]
 refine .ifn (by simp) (.call (add_spec14 B D (kg.chg k1 fun f => f) hk (c := 1) (.inl rfl) (t := ⟨#[97, 98]⟩) (by decide) (by decide) (by decide) (by decide)) fun r6 ⟨q6, s1', s2', si', B6, c6⟩ => ?_)
 rw [add_ab] at q6 B6
 have kg6 : KG 0 r6.2 := (kg.chg k1 fun f => f).chg c6 (by have := kg.lt; omega)
 have lq : q14.2.2.1 ≠ [] := fun q => by cases q
 have hb1 : q14.1.length ≤ 65536 := by
  show (magicB ++ encP 1 (bl ⟨#[97, 98]⟩)).length ≤ _
  rw [enc_ab]; decide
 have hb2 : q14.2.1.length ≤ 65536 := by
  show ([] ++ lineA 1 ⟨#[97, 98]⟩).length ≤ _
  rw [List.nil_append, line_ab]; decide
 refine .call (finish_spec B6 D kg6 (by have := kg.lt; omega) hk hb1 hb2 (by show 1 ≤ 4096; decide)) fun r7 q7 => ?_
 rw [if_neg lq] at q7
 obtain ⟨q7, A7, _, c7⟩ := q7
 rw [q6, q7]
 have kz : Keeps h r7.2 := k1.keepsS (c6.trans c7) fun y hy => hy
 have kg7 : KG 0 r7.2 := kg.chg kz fun f => f
 have R7 := A7.row itC_len
 have sl : si'.len = 1 := by rw [R7.len]; rfl
 obtain ⟨x, hx⟩ : ∃ x, (finI q14)[0]? = some x := ⟨_, rfl⟩
 have ex : x = setP ⟨⟨digest (finB q14)⟩⟩ (itP st0P 1 ⟨#[97, 98]⟩) := by cases hx; rfl
 obtain ⟨p, b1, _, b3, b4⟩ := R7.ld itC_len (by decide) hx
 have l3 : ldI .i64 ⟨p.block, p.off + 1 + 2, none⟩ r7.2 = some 5 := b3 3 _ 5 (by rw [ex]; rfl)
 have b1' : idxL 6 si' 0 = some p := b1
 refine .ifp rfl (.ifp (by show ((⟨⟨finB q14⟩⟩ : ByteArray).size : Int) == 53; rw [size_mk, fin_ab]; rfl) (.ifp (by show ((si'.len : Int) == 1) = true; rw [sl]; rfl) (.bnd b1' (.bnd l3 (.ifp rfl (Wp.newE fun h10 e10 k10 n10 g10 => ?_))))))
 have R10 : Row encS h10 ⟨some ⟨r7.2.next, 0, some 0⟩, 1, 1⟩ [⟨⟨finB q14⟩⟩] := Row.of_block (enc := encS) (xs := [⟨⟨finB q14⟩⟩]) g10 (by omega) fun i z hz => by
  match i with
  | 0 => simp at hz; subst hz; rfl
  | i + 1 => simp at hz
 have ec : Ge.B.catL [(⟨⟨finB q14⟩⟩ : ByteArray)] = finB q14 := by simp [Ge.B.catL, bl]
 refine .call (Ge.B.sum_spec (by omega) D (kg7.chg k10 fun f => f) R10 (by rw [ec, fin_ab]; decide) (by rw [ec, fin_ab]; omega) (by simp; omega) (by simp)) fun r11 ⟨q11, k11⟩ => ?_
 rw [ec] at q11
 have ldS1 : ∀ {H : AHeap}, Keeps r7.2 H → ldS ⟨p.block, p.off + 1 + 0, none⟩ H = some ⟨⟨digest (finB q14)⟩⟩ := fun kk => by
  obtain ⟨p', b1'', _, _, b4'⟩ := (R7.keeps kk).ld itC_len (by decide) hx
  rw [b1] at b1''
  cases b1''
  exact b4' 1 _ (by rw [ex]; rfl)
 refine .bnd b1' (.bnd (ldS1 (k10.trans k11)) (.gp (fun HH hH => ?_) (.of ⟨?_, kz.trans (k10.trans k11)⟩)))
 ·simp only [List.mem_cons, List.not_mem_nil, or_false] at hH
  rcases hH with z | z
  ·rw [z]; dsimp only; rw [ldS1 k10]; rfl
  ·rw [z]; dsimp only; rw [ldS1 (Chg.refl _ _)]; rfl
 ·rw [q11, ba_beq]; simp
def foldP : List UInt8 := [112, 97, 99, 107, 47]
theorem pidof_spec (D : CallF) (s : ByteArray) (hs : s.size ≤ 2000000) (hk : s.size + 10 ≤ k) (h : AHeap) : Gx.Wp (pack_IdOf k D s h) fun z => z.1 = idOfR foldP (bl s) ∧ Keeps h z.2 := by
 simp only [pack_IdOf]
 have hl : (bl s).length = s.size := rfl
 refine .bnd (cut_spec D s ⟨#[112, 97, 99, 107, 47]⟩ h) ?_
 have pre : bl (⟨#[112, 97, 99, 107, 47]⟩ : ByteArray) = foldP := rfl
 have psz : (⟨#[112, 97, 99, 107, 47]⟩ : ByteArray).size = 5 := rfl
 rw [pre, psz]
 have fl : foldP.length = 5 := rfl
 by_cases c : (bl s).take 5 = foldP
 ·rw [if_pos c]
  refine .call (unhex_spec D (bA ((bl s).drop 5)) (by rw [bA_size, List.length_drop]; omega) (by rw [bA_size, List.length_drop]; omega) h) fun r2 ⟨q2, k2⟩ => Gx.Wp.jn fun j6 h6 => .ifn (by simp) ?_
  have eb : bl (bA ((bl s).drop 5)) = (bl s).drop 5 := rfl
  rw [eb] at q2
  rw [q2]
  unfold idOfR
  rw [fl, if_pos c]
  unfold unhexR
  cases e : unhexL ((bl s).drop 5) with
  | none =>
   refine .ifp (by simp) ?_
   rw [h6]
   exact .ifp rfl (.of ⟨rfl, k2⟩)
  | some r =>
   refine .ifn (by simp) (.bnd (isid_spec D (bA r) r2.2) ?_)
   rw [h6, bA_size]
   by_cases c2 : r.length = 32
   ·refine .ifn (by simp [c2]) (.of ⟨?_, k2⟩)
    dsimp only
    rw [if_pos c2]
   ·refine .ifp (by simp [c2]) (.of ⟨?_, k2⟩)
    dsimp only
    rw [if_neg c2]
 ·rw [if_neg c]
  refine .call (unhex_spec D s hs hk h) fun r2 ⟨q2, k2⟩ => Gx.Wp.jn fun j6 h6 => .ifp (by simp) ?_
  rw [h6]
  refine .ifp rfl (.of ⟨?_, k2⟩)
  unfold idOfR
  rw [fl, if_neg c]
theorem pname_spec (D : CallF) (s : ByteArray) (hs : s.size ≤ 1000000) (hk : s.size + 10 ≤ k) (h : AHeap) : Gx.Wp (pack_Name k D s h) fun z => z.1 = bA (foldP ++ hexL (bl s)) ∧ Keeps h z.2 := by
 simp only [pack_Name]
 refine .call (hex_spec D s (by omega) hk h) fun r1 ⟨q1, k1⟩ => ?_
 rw [q1]
 have hl : (hexL (bl s)).length = 2 * s.size := hexL_len (bl s)
 refine .ifp (by rw [bA_size, hl]; show 5 + _ ≤ _; omega) (.of ⟨?_, k1⟩)
 exact Ge.B.ba_app foldP (hexL (bl s))
theorem idOf_name {l : List UInt8} (h : l.length = 32) : idOfR foldP (foldP ++ hexL l) = (bA l, 0) := by
 unfold idOfR
 rw [List.take_left, if_pos rfl, List.drop_left, unhex_hex]
 simp only []
 rw [if_pos h]
theorem idOf_ok {l : List UInt8} (h : (idOfR foldP l).2 = 0) : foldP ++ hexL (bl (idOfR foldP l).1) = l ∧ (bl (idOfR foldP l).1).length = 32 := by
 unfold idOfR at h ⊢
 split at h
 ·rename_i c
  rw [if_pos c]
  cases e : unhexL (l.drop foldP.length) with
  | none => rw [e] at h; exact absurd h (by decide)
  | some r =>
   rw [e] at h
   simp only [] at h ⊢
   split at h
   ·rename_i c2
    rw [if_pos c2]
    have : bl (bA r) = r := rfl
    have tk := List.take_append_drop foldP.length l
    rw [c] at tk
    rw [show (bA r, (0 : Int)).1 = bA r from rfl, this, hex_unhex e]
    exact ⟨tk, c2⟩
   ·exact absurd h (by decide)
 ·exact absurd h (by decide)
theorem idOf_no (l : List UInt8) : (idOfR foldP l).2 = 0 ∨ idOfR foldP l = (⟨#[]⟩, 5) := by
 unfold idOfR
 split
 ·cases e : unhexL (l.drop foldP.length) with
  | none => exact .inr rfl
  | some r =>
   simp only []
   split
   ·exact .inl rfl
   ·exact .inr rfl
 ·exact .inr rfl
theorem names_true (D : CallF) {h : AHeap} (kg : KG 0 h) (hk : 3000000 ≤ k) (id : ByteArray) (at' : Int) (c : UInt8) : Gx.Wp (law14_PackNames k D id at' (c.toNat : Int) h) fun z => z.1 = true := by
 simp only [law14_PackNames]
 refine .call (works14 D kg (by omega)) fun r1 ⟨q1, k1⟩ => .ifn (by rw [q1]; decide) ?_
 by_cases ci : id.size = 32
 rotate_left
 ·exact .ifp (by simp; omega) (.of rfl)
 refine .ifn (by simp; omega) (.call (pname_spec D id (by omega) (by omega) r1.2) fun r2 ⟨q2, k2⟩ => ?_)
 have li : (bl id).length = 32 := by rw [bl_length]; exact ci
 have lh : (hexL (bl id)).length = 64 := by rw [hexL_len]; omega
 obtain ⟨n, en⟩ : ∃ n : List UInt8, n = foldP ++ hexL (bl id) := ⟨_, rfl⟩
 have ln : n.length = 69 := by rw [en, List.length_append, lh]; rfl
 rw [← en] at q2
 rw [q2]
 have sn : (bA n).size = 69 := by rw [bA_size]; exact ln
 refine .call (pidof_spec D (bA n) (by omega) (by omega) r2.2) fun r3 ⟨q3, k3⟩ => ?_
 have q3' : r3.1 = (id, 0) := by rw [q3, show bl (bA n) = n from rfl, en, idOf_name li]; rfl
 refine Wp.newE fun h4 e4 k4 n4 g4 => ?_
 rw [sn]
 refine .bnd (among_eq (n := 69) (by omega) (by omega) k D at' h4) ?_
 have am := amN_lt (n := 69) (by omega) at'
 obtain ⟨a, ha⟩ : ∃ a, a = amN 69 at' := ⟨_, rfl⟩
 dsimp only
 rw [← ha] at am ⊢
 have g4' : h4.get r3.2.next = some (.cells (n.map encB) 5 true 18446744073709551616) := g4
 refine .bnd (idxL_out (by omega)) ?_
 have st : st1 ⟨r3.2.next, a, none⟩ (.int .u8 (c.toNat : Int)) h4 = some (h4.set r3.2.next (.cells ((n.set a c).map encB) 5 true 18446744073709551616)) := by
  unfold st1
  simp only [AHeap.wr1, g4']
  rw [if_pos ⟨by rw [List.length_map, ln]; exact am, by omega, rfl⟩, List.map_set]
  rfl
 refine .bnd st ?_
 obtain ⟨h7, e7⟩ : ∃ h7, h7 = h4.set r3.2.next (.cells ((n.set a c).map encB) 5 true 18446744073709551616) := ⟨_, rfl⟩
 rw [← e7]
 have g7 : h7.get r3.2.next = some (.cells ((n.set a c).map encB) 5 true 18446744073709551616) := by rw [e7]; simp
 have n7 : h7.next = h4.next := by rw [e7]; rfl
 have ls : (n.set a c).length = 69 := by rw [List.length_set, ln]
 have bo : ∀ {H : AHeap}, Keeps h7 H → bytesOf H ⟨some ⟨r3.2.next, 0, some 2⟩, 69, 69⟩ = some (bA (n.set a c)) := fun kk => by
  have := bytesOf_out (cap := 69) (sp := some 2) (kk.got (by omega) g7)
  rw [ls] at this
  exact this
 refine .bnd (bo (Chg.refl _ _)) ?_
 have sm : (bA (n.set a c)).size = 69 := by rw [bA_size]; exact ls
 refine .call (pidof_spec D (bA (n.set a c)) (by omega) (by omega) h7) fun r9 ⟨q9, k9⟩ => .ifp (show 69 + 1 ≤ _ by omega) ?_
 have e0 : bA n ++ (⟨#[48]⟩ : ByteArray) = bA (n ++ [48]) := Ge.B.ba_app n [48]
 rw [e0]
 have s0 : (bA (n ++ [48])).size = 70 := by rw [bA_size, List.length_append, ln]; rfl
 refine .call (pidof_spec D _ (by omega) (by omega) r9.2) fun r10 ⟨q10, k10⟩ => ?_
 refine .bnd (subS_of (s := bA n) (lo := some 1) (hi := none) (i := 1) (j := 69) (by show ((bA n).size : Int) = _; rw [sn]) rfl (by omega) (by omega)) ?_
 refine .call (pidof_spec D _ (by rw [size_mk]; simp; omega) (by rw [size_mk]; simp; omega) r10.2) fun r12 ⟨q12, k12⟩ => ?_
 have q10' : r10.1.2 = 5 := by
  rw [q10, show bl (bA (n ++ [48])) = n ++ [48] from rfl]
  rcases idOf_no (n ++ [48]) with w | w
  ·have := idOf_ok w
   have l2 := congrArg List.length this.1
   rw [List.length_append, hexL_len, this.2, List.length_append, ln] at l2
   exact absurd l2 (by decide)
  ·rw [w]
 have q12' : r12.1.2 = 5 := by
  rw [q12, bl_mk]
  rcases idOf_no ((n.take 69).drop 1) with w | w
  ·have := idOf_ok w
   have l2 := congrArg List.length this.1
   rw [List.length_append, hexL_len, this.2, List.length_drop, List.length_take, ln] at l2
   exact absurd l2 (by decide)
  ·exact congrArg Prod.snd w
 rw [q3', q10', q12']
 refine .ifp rfl (.ifp (by rw [ba_beq]; simp) ?_)
 have q9' : r9.1 = idOfR foldP (n.set a c) := q9
 rcases idOf_no (n.set a c) with w | w
 ·obtain ⟨w1, w2⟩ := idOf_ok w
  rw [← q9'] at w w1 w2
  refine .ifp (by rw [w]; rfl) (.call (pname_spec D r9.1.1 (by have := bl_length r9.1.1; omega) (by have := bl_length r9.1.1; omega) r12.2) fun r13 ⟨q13, k13⟩ => .bnd (bo (((k9.trans k10).trans k12).trans k13)) (.gp (ssw1 ?_) ?_))
  ·exact bnd (bo ((k9.trans k10).trans k12)) rfl
  ·refine .ifp (by rw [q13, w1, ba_beq]; simp) (.ifp rfl (.of rfl))
 ·rw [q9', w]
  exact .ifn (by decide) (.ifp rfl (.ifp (by rw [ba_beq]; simp) (.ifp rfl (.of rfl))))
theorem names_T (hk : 3000000 ≤ k) (D : CallF) {h : AHeap} (kg : KG 0 h) (id : ByteArray) (at' : Int) (c : UInt8) : ∃ h', law14_PackNames k D id at' (c.toNat : Int) h = some (true, h') := tru (names_true D kg hk id at' c)
end
end Ge
namespace Ge
open Go Gx
theorem names_I {k : Nat} (hk : 3000000 ≤ k) (D : CallF) {h : AHeap} (kg : KG 0 h) (id : ByteArray) (at' : Int) {a : Int} (ha : 0 ≤ a ∧ a < 256) : ∃ h', law14_PackNames k D id at' a h = some (true, h') := by
 have e : (((UInt8.ofNat a.toNat).toNat : Nat) : Int) = a := by rw [UInt8.toNat_ofNat']; omega
 have := names_T hk D kg id at' (UInt8.ofNat a.toNat)
 rw [e] at this
 exact this
end Ge
