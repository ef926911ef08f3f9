import Derived.Sort.Walk0
import Derived.Test.YtgnljbdobbahkaaFn1
namespace Gc
open Go Gx
theorem less_eq (a b : ByteArray) : Op.bytesLess a.toList b.toList = decide (bl a < bl b) := by
 rw [Go.Proofs.bytesLess_eq, ByteArray.toList_eq, ByteArray.toList_eq]; rfl
theorem beq_ba (a b : ByteArray) : (a == b) = decide (a = b) := by
 have e : (a == b) = (a.data == b.data) := rfl
 rw [e]
 by_cases h : a = b
 ·subst h; simp
 ·have : ¬ a.data = b.data := fun e => h (by cases a; cases b; simp at e; rw [e])
  simp [h, this]
abbrev It := ByteArray × ByteArray × Int × Int × Int × Int
def itC (x : It) : List Value := [.string x.1, .string x.2.1, .int .i64 x.2.2.1, .int .i64 x.2.2.2.1, .int .i64 x.2.2.2.2.1, .int .i64 x.2.2.2.2.2]
theorem itC_len (x : It) : (itC x).length = 6 := rfl
theorem itC_one (x : It) : allOne (itC x) = true := rfl
def cmpB (a b : ByteArray) : Int := if bl a < bl b then -1 else if a = b then 0 else 1
def cmpI (a b : Int) : Int := if a < b then -1 else if a = b then 0 else 1
def orL : List Int → Int
 | [] => 0
 | c :: l => if c ≠ 0 then c else orL l
def ordL (x y : It) : List Int := [cmpB x.1 y.1, cmpB x.2.1 y.2.1, cmpI x.2.2.2.1 y.2.2.2.1, cmpI x.2.2.2.2.1 y.2.2.2.2.1, cmpI x.2.2.2.2.2 y.2.2.2.2.2, cmpI x.2.2.1 y.2.2.1]
def ord (x y : It) : Int := orL (ordL x y)
def lessI (x y : It) : Bool := decide (ord x y < 0)
section
variable (k : Nat) (D : CallF)
theorem cmpS_spec (a b : ByteArray) (h : AHeap) : cmp_Compare_string k D a b h = some (cmpB a b, h) := by
 simp only [cmp_Compare_string, cmp_isNaN_string, Option.bind_some, beq_ba, less_eq, cmpB]
 by_cases c : bl a < bl b
 ·simp [c]
 ·by_cases e : a = b
  ·simp [e, List.lt_irrefl]
  ·simp [c, e]
theorem cmpN_spec (a b : Int) (h : AHeap) : cmp_Compare_int k D a b h = some (cmpI a b, h) := by
 simp only [cmp_Compare_int, cmp_isNaN_int, Option.bind_some, cmpI]
 by_cases c : a < b
 ·simp [c]
 ·by_cases e : a = b
  ·simp [e]
  ·have : b < a := by omega
   simp [c, e, this]
theorem or_spec {k : Nat} (hk : 100 ≤ k) {h : AHeap} {s : Slc} {xs : List Int} (R : Row encI h s xs) (hl : xs.length < 90) : cmp_Or_int k D s h = some (orL xs, h) := by
 simp only [cmp_Or_int]
 refine jn ?_
 unfold cmp_Or_int_l0
 generalize hj : (fun (zero1 : Int) (h2 : AHeap) => some (zero1, h2)) = j
 obtain ⟨bot, eb⟩ := iterK_of (fun _ _ _ _ _ => none) (cmp_Or_int_l0b k D j) (show xs.length + 1 ≤ k by omega)
 rw [eb]
 have loop : ∀ (d i : Nat), i + d = xs.length → iterK bot (d + 1) (cmp_Or_int_l0b k D j) 0 s (s.len : Int) (i : Int) h = some (orL (xs.drop i), h) := fun d => by
  induction d with
  | zero =>
   intro i hd
   obtain rfl : i = xs.length := by omega
   rw [iterK_s, List.drop_length]; simp only [cmp_Or_int_l0b]
   subst hj
   exact ifn (by rw [R.1]; simp) rfl
  | succ d ih =>
   intro i hd
   rw [iterK_s]; simp only [cmp_Or_int_l0b]
   obtain ⟨x, hx⟩ := isome (l := xs) (i := i) (by omega)
   obtain ⟨p, b1, b2⟩ := R.ldI hx
   refine ifp (by rw [R.1]; simp; omega) (bnd b1 (bnd b2 ?_))
   rw [dropc hx]
   by_cases c : x = 0
   ·refine ifn (by simp [c]) ?_
    rw [Gx.w1 (by omega), ih (i + 1) (by omega)]
    simp [orL, c]
   ·exact ifp (by simp [c]) (by simp [orL, c])
 exact loop xs.length 0 (by omega)
theorem ssw {hs : List AHeap} {H : AHeap} {F : AHeap → Option Value} {v : Value} (hh : ∀ x ∈ hs, x = H) (h : F H = some v) : SameW hs F v := fun x hx => by rw [hh x hx]; exact h
theorem order_spec {k : Nat} (hk : 100 ≤ k) (x y : It) (h : AHeap) : Gx.Wp (lookup_order k D x y h) fun z => z.1 = ord x y ∧ Keeps h z.2 := by
 simp only [lookup_order]
 refine Wp.newE fun H1 e1 k1 n1 g1 => Wp.newE fun H2 e2 k2 n2 g2 => ?_
 have gx : H2.get h.next = some (.cells (itC x) 57 true 0) := k2.got (by omega) g1
 have gy : H2.get H1.next = some (.cells (itC y) 57 true 0) := g2
 have lS : ∀ {b o : Nat} {c : List Value} {t : ByteArray}, H2.get b = some (.cells c 57 true 0) → c[o]? = some (.string t) → ldS ⟨b, o, none⟩ H2 = some t := fun hb hc => by simp [ldS, AHeap.rd1, hb, hc, decS]
 have lI : ∀ {b o : Nat} {c : List Value} {t : Int}, H2.get b = some (.cells c 57 true 0) → c[o]? = some (.int .i64 t) → ldI .i64 ⟨b, o, none⟩ H2 = some t := fun hb hc => sldI_at hb hc
 have x1 := lS (o := 0) gx rfl; have x2 := lS (o := 1) gx rfl; have x3 := lI (o := 3) gx rfl; have x4 := lI (o := 4) gx rfl; have x5 := lI (o := 5) gx rfl; have x6 := lI (o := 2) gx rfl
 have y1 := lS (o := 0) gy rfl; have y2 := lS (o := 1) gy rfl; have y3 := lI (o := 3) gy rfl; have y4 := lI (o := 4) gy rfl; have y5 := lI (o := 5) gy rfl; have y6 := lI (o := 2) gy rfl
 refine .bnd x1 (.bnd y1 (.bnd (cmpS_spec k D _ _ _) ?_))
 refine .bnd x2 (.gp (ssw (H := H2) (by simp) (by rw [x2]; rfl)) (.bnd y2 (.gp (ssw (H := H2) (by simp) (by rw [y2]; rfl)) (.bnd (cmpS_spec k D _ _ _) ?_))))
 refine .bnd x3 (.gp (ssw (H := H2) (by simp) (by rw [x3]; rfl)) (.bnd y3 (.gp (ssw (H := H2) (by simp) (by rw [y3]; rfl)) (.bnd (cmpN_spec k D _ _ _) ?_))))
 refine .bnd x4 (.gp (ssw (H := H2) (by simp) (by rw [x4]; rfl)) (.bnd y4 (.gp (ssw (H := H2) (by simp) (by rw [y4]; rfl)) (.bnd (cmpN_spec k D _ _ _) ?_))))
 refine .bnd x5 (.gp (ssw (H := H2) (by simp) (by rw [x5]; rfl)) (.bnd y5 (.gp (ssw (H := H2) (by simp) (by rw [y5]; rfl)) (.bnd (cmpN_spec k D _ _ _) ?_))))
 refine .bnd x6 (.gp (ssw (H := H2) (by simp) (by rw [x6]; rfl)) (.bnd y6 (.gp (ssw (H := H2) (by simp) (by rw [y6]; rfl)) (.bnd (cmpN_spec k D _ _ _) ?_))))
 refine Wp.newE fun H3 e3 k3 n3 g3 => ?_
 have R : Row encI H3 (⟨some ⟨H2.next, 0, some 0⟩, 6, 6⟩ : Slc) (ordL x y) := Row.of_block (xs := ordL x y) (o := 0) g3 (by rw [n3]; exact Nat.lt_succ_self H2.next) fun i z hz => by
  match i with
  | 0 => cases hz; rfl
  | 1 => cases hz; rfl
  | 2 => cases hz; rfl
  | 3 => cases hz; rfl
  | 4 => cases hz; rfl
  | 5 => cases hz; rfl
  | i + 6 => simp [ordL] at hz
 exact .bnd (or_spec D hk R (by simp [ordL])) (.of ⟨rfl, (k1.trans k2).trans k3⟩)
theorem decI6 (x : It) : decC [.s, .s, .i .i64, .i .i64, .i .i64, .i .i64] (itC x) = some x := rfl
end
end Gc
namespace Gc
open Go Gx
def okI (x : It) : Prop := x.1.size = 32 ∧ x.2.1.size = 32 ∧ (x.2.2.1 = 1 ∨ x.2.2.1 = 2) ∧ (0 ≤ x.2.2.2.1 ∧ x.2.2.2.1 ≤ 65536) ∧ (1 ≤ x.2.2.2.2.1 ∧ x.2.2.2.2.1 ≤ 65536) ∧ (0 ≤ x.2.2.2.2.2 ∧ x.2.2.2.2.2 ≤ 65536)
instance (x : It) : Decidable (okI x) := by unfold okI; exact inferInstance
def chkI (x : It) : Int := if okI x then 0 else 1
section
variable (k : Nat) (D : CallF)
theorem within_spec (n l : Int) (h : AHeap) : lookup_within k D n l h = some (decide (l ≤ n ∧ n ≤ 65536), h) := by
 simp only [lookup_within]
 by_cases c : l ≤ n
 ·simp [c]
 ·simp [c]
theorem check_spec (x : It) (h : AHeap) : Gx.Wp (lookup_Check k D x h) fun z => z.1 = chkI x ∧ Keeps h z.2 := by
 simp only [lookup_Check]
 refine Wp.newE fun H1 e1 k1 n1 g1 => Wp.jn fun j5 h5 => ?_
 have gx : H1.get h.next = some (.cells (itC x) 57 true 0) := g1
 have lS : ∀ {o : Nat} {t : ByteArray}, (itC x)[o]? = some (.string t) → ldS ⟨h.next, o, none⟩ H1 = some t := fun hc => by simp [ldS, AHeap.rd1, gx, hc, decS]
 have lI : ∀ {o : Nat} {t : Int}, (itC x)[o]? = some (.int .i64 t) → ldI .i64 ⟨h.next, o, none⟩ H1 = some t := fun hc => sldI_at gx hc
 have J : ∀ kd : Bool, (kd = true ↔ (x.2.2.1 = 1 ∨ x.2.2.1 = 2)) → Gx.Wp (j5 (some ⟨h.next, 0, none⟩) kd H1) fun z => z.1 = chkI x ∧ Keeps h z.2 := by
  intro kd hkd
  rw [h5]
  refine Wp.jn fun j8 h8 => ?_
  have j8t : ¬ okI x → Gx.Wp (j8 true H1) fun z => z.1 = chkI x ∧ Keeps h z.2 := fun hn => by rw [h8]; exact .of ⟨by simp [chkI, hn], k1⟩
  have j8f : okI x → Gx.Wp (j8 false H1) fun z => z.1 = chkI x ∧ Keeps h z.2 := fun hn => by rw [h8]; exact .of ⟨by simp [chkI, hn], k1⟩
  refine .bnd rfl (.bnd (lS (o := 0) rfl) (.bnd rfl ?_))
  by_cases c1 : x.1.size = 32
  rotate_left
  ·exact .ifp (by simp; omega) (j8t fun q => c1 q.1)
  refine .ifn (by simp [c1]) (.bnd rfl (.bnd (lS (o := 1) rfl) (.bnd rfl ?_)))
  by_cases c2 : x.2.1.size = 32
  rotate_left
  ·exact .ifp (by simp; omega) (j8t fun q => c2 q.2.1)
  refine .ifn (by simp [c2]) ?_
  by_cases c3 : kd = true
  rotate_left
  ·exact .ifp (by simpa using c3) (j8t fun q => c3 (hkd.2 q.2.2.1))
  refine .ifn (by simp [c3]) (.bnd rfl (.bnd (lI (o := 3) rfl) (.bnd (within_spec k D _ _ _) ?_)))
  by_cases c4 : 0 ≤ x.2.2.2.1 ∧ x.2.2.2.1 ≤ 65536
  rotate_left
  ·exact .ifp (by simp only [c4, decide_false, Bool.not_false]) (j8t fun q => c4 q.2.2.2.1)
  refine .ifn (by simp [c4]) (.bnd rfl (.bnd (lI (o := 4) rfl) (.bnd (within_spec k D _ _ _) ?_)))
  by_cases c5 : 1 ≤ x.2.2.2.2.1 ∧ x.2.2.2.2.1 ≤ 65536
  rotate_left
  ·exact .ifp (by simp only [c5, decide_false, Bool.not_false]) (j8t fun q => c5 q.2.2.2.2.1)
  refine .ifn (by simp [c5]) (.bnd rfl (.bnd (lI (o := 5) rfl) (.bnd (within_spec k D _ _ _) ?_)))
  by_cases c6 : 0 ≤ x.2.2.2.2.2 ∧ x.2.2.2.2.2 ≤ 65536
  ·simp only [c6, and_self, decide_true, Bool.not_true]
   exact j8f ⟨c1, c2, hkd.1 c3, c4, c5, c6⟩
  ·simp only [c6, decide_false, Bool.not_false]
   exact j8t fun q => c6 q.2.2.2.2.2
 refine .bnd (lI (o := 2) rfl) ?_
 by_cases c : x.2.2.1 = 1
 ·exact .ifp (by simpa using c) (J true (by simp [c]))
 ·exact .ifn (by simpa using c) (.bnd (lI (o := 2) rfl) (J _ (by simp [c])))
theorem known_spec (n : Int) (h : AHeap) : ref13_Known k D n h = some (decide (n = 1 ∨ n = 2), h) := by
 simp only [ref13_Known]
 by_cases c : n = 1
 ·simp [c]
 ·by_cases d : n = 2 <;> simp [c, d]
theorem rcheck_spec (x : It) (h : AHeap) : Gx.Wp (ref15_Check k D x h) fun z => z.1 = chkI x ∧ Keeps h z.2 := by
 simp only [ref15_Check]
 refine Wp.newE fun H1 e1 k1 n1 g1 => ?_
 have gx : H1.get h.next = some (.cells (itC x) 57 true 0) := g1
 have ld5 : ldA 5 ⟨h.next, 1, none⟩ H1 = some ((itC x).drop 1) := by simp only [ldA, AHeap.rdL, gx]; rfl
 refine .bnd ld5 (.bnd (show decC [.s, .i .i64, .i .i64, .i .i64, .i .i64] ((itC x).drop 1) = some x.2 from rfl) (Wp.newE fun H2 e2 k2 n2 g2 => ?_))
 refine Wp.stL g2 rfl rfl rfl (by decide) fun H3 c3 n3 g3 => Wp.jn fun j9 h9 => ?_
 have k3 : Keeps h H3 := (k1.trans k2).keepsS c3 fun y hy => by subst hy; omega
 have gx3 : H3.get h.next = some (.cells (itC x) 57 true 0) := c3.got (by omega) (by omega) (k2.got (by omega) gx)
 have ga3 : H3.get H1.next = some (.cells ((itC x).drop 1) 55 true 0) := g3
 have lI : ∀ {o : Nat} {t : Int}, ((itC x).drop 1)[o]? = some (.int .i64 t) → ldI .i64 ⟨H1.next, o, none⟩ H3 = some t := fun hc => sldI_at ga3 hc
 have j9t : ¬ okI x → Gx.Wp (j9 (some ⟨H1.next, 0, none⟩) true H3) fun z => z.1 = chkI x ∧ Keeps h z.2 := fun hn => by rw [h9]; exact .ifp rfl (.of ⟨by simp [chkI, hn], k3⟩)
 refine .bnd (show ldS ⟨h.next, 0, none⟩ H3 = some x.1 by simp [ldS, AHeap.rd1, gx3, itC, decS]) ?_
 by_cases c1 : x.1.size = 32
 rotate_left
 ·exact .ifp (by simp; omega) (j9t fun q => c1 q.1)
 refine .ifn (by simp [c1]) (.bnd (show ldS ⟨H1.next, 0, none⟩ H3 = some x.2.1 by simp [ldS, AHeap.rd1, ga3, itC, decS]) ?_)
 by_cases c2 : x.2.1.size = 32
 rotate_left
 ·exact .ifp (by simp; omega) (j9t fun q => c2 q.2.1)
 refine .ifn (by simp [c2]) (.bnd (lI (o := 1) rfl) (.bnd (known_spec k D _ _) ?_))
 by_cases c3' : x.2.2.1 = 1 ∨ x.2.2.1 = 2
 rotate_left
 ·simp only [c3', decide_false, Bool.not_false]; exact j9t fun q => c3' q.2.2.1
 simp only [c3', decide_true, Bool.not_true]
 rw [h9]
 refine .ifn (by decide) (Wp.jn fun j12 h12 => ?_)
 have jt : ¬ okI x → Gx.Wp (j12 true H3) fun z => z.1 = chkI x ∧ Keeps h z.2 := fun hn => by rw [h12]; exact .of ⟨by simp [chkI, hn], k3⟩
 have jf : okI x → Gx.Wp (j12 false H3) fun z => z.1 = chkI x ∧ Keeps h z.2 := fun hn => by rw [h12]; exact .of ⟨by simp [chkI, hn], k3⟩
 refine .bnd rfl (.bnd (lI (o := 2) rfl) ?_)
 by_cases d1 : x.2.2.2.1 < 0
 ·exact .ifp (by simpa using d1) (jt fun q => by have := q.2.2.2.1; omega)
 refine .ifn (by simpa using d1) (.bnd rfl (.bnd (lI (o := 2) rfl) ?_))
 by_cases d2 : x.2.2.2.1 > 65536
 ·exact .ifp (by simpa using d2) (jt fun q => by have := q.2.2.2.1; omega)
 refine .ifn (by simpa using d2) (.bnd rfl (.bnd (lI (o := 3) rfl) ?_))
 by_cases d3 : x.2.2.2.2.1 < 1
 ·exact .ifp (by simpa using d3) (jt fun q => by have := q.2.2.2.2.1; omega)
 refine .ifn (by simpa using d3) (.bnd rfl (.bnd (lI (o := 3) rfl) ?_))
 by_cases d4 : x.2.2.2.2.1 > 65536
 ·exact .ifp (by simpa using d4) (jt fun q => by have := q.2.2.2.2.1; omega)
 refine .ifn (by simpa using d4) (.bnd rfl (.bnd (lI (o := 4) rfl) ?_))
 by_cases d5 : x.2.2.2.2.2 < 0
 ·exact .ifp (by simpa using d5) (jt fun q => by have := q.2.2.2.2.2; omega)
 refine .ifn (by simpa using d5) (.bnd rfl (.bnd (lI (o := 4) rfl) ?_))
 by_cases d6 : x.2.2.2.2.2 > 65536
 ·simp only [d6, decide_true]; exact jt fun q => by have := q.2.2.2.2.2; omega
 ·simp only [d6, decide_false]; exact jf ⟨c1, c2, c3', by omega, by omega, by omega⟩
def rlessI (x y : It) : Bool :=
 if x.1 ≠ y.1 then decide (bl x.1 < bl y.1) else if x.2.1 ≠ y.2.1 then decide (bl x.2.1 < bl y.2.1) else
 if x.2.2.2.1 ≠ y.2.2.2.1 then decide (x.2.2.2.1 < y.2.2.2.1) else if x.2.2.2.2.1 ≠ y.2.2.2.2.1 then decide (x.2.2.2.2.1 < y.2.2.2.2.1) else
 if x.2.2.2.2.2 ≠ y.2.2.2.2.2 then decide (x.2.2.2.2.2 < y.2.2.2.2.2) else decide (x.2.2.1 < y.2.2.1)
theorem cmpB_zero {a b : ByteArray} : cmpB a b = 0 ↔ a = b := by
 unfold cmpB
 by_cases c : bl a < bl b
 ·simp only [c, if_true]
  constructor
  ·intro h; omega
  ·rintro rfl; exact absurd c (List.lt_irrefl _)
 ·by_cases e : a = b <;> simp [c, e]
theorem cmpB_neg {a b : ByteArray} : cmpB a b < 0 ↔ bl a < bl b := by
 unfold cmpB
 by_cases c : bl a < bl b
 ·simp [c]
 ·by_cases e : a = b
  ·subst e; simp [List.lt_irrefl]
  ·simp [c, e]
theorem cmpI_zero {a b : Int} : cmpI a b = 0 ↔ a = b := by
 unfold cmpI
 by_cases c : a < b
 ·simp [c]; omega
 ·by_cases e : a = b <;> simp [c, e]
theorem cmpI_neg {a b : Int} : cmpI a b < 0 ↔ a < b := by
 unfold cmpI
 by_cases c : a < b
 ·simp [c]
 ·by_cases e : a = b <;> simp [c, e]
theorem less_same (x y : It) : lessI x y = rlessI x y := by
 unfold lessI rlessI ord ordL
 simp only [orL, ne_eq, cmpB_zero, cmpI_zero]
 by_cases c1 : x.1 = y.1
 rotate_left
 ·simp [c1, cmpB_neg]
 by_cases c2 : x.2.1 = y.2.1
 rotate_left
 ·simp [c1, c2, cmpB_neg]
 by_cases c3 : x.2.2.2.1 = y.2.2.2.1
 rotate_left
 ·simp [c1, c2, c3, cmpI_neg]
 by_cases c4 : x.2.2.2.2.1 = y.2.2.2.2.1
 rotate_left
 ·simp [c1, c2, c3, c4, cmpI_neg]
 by_cases c5 : x.2.2.2.2.2 = y.2.2.2.2.2
 rotate_left
 ·simp [c1, c2, c3, c4, c5, cmpI_neg]
 by_cases c6 : x.2.2.1 = y.2.2.1
 rotate_left
 ·simp [c1, c2, c3, c4, c5, c6, cmpI_neg]
 ·simp [c1, c2, c3, c4, c5, c6]
theorem rless_spec (x y : It) (h : AHeap) : Gx.Wp (ref15_Less k D x y h) fun z => z.1 = lessI x y ∧ Keeps h z.2 := by
 rw [less_same]
 simp only [ref15_Less]
 refine Wp.newE fun H1 e1 k1 n1 g1 => Wp.newE fun H2 e2 k2 n2 g2 => ?_
 have kk := k1.trans k2
 have gx : H2.get h.next = some (.cells (itC x) 57 true 0) := k2.got (by omega) g1
 have gy : H2.get H1.next = some (.cells (itC y) 57 true 0) := g2
 have lS : ∀ {H : AHeap} {b o : Nat} {e : TypeId} {c : List Value} {t : ByteArray}, H.get b = some (.cells c e true 0) → c[o]? = some (.string t) → ldS ⟨b, o, none⟩ H = some t := fun hb hc => by simp [ldS, AHeap.rd1, hb, hc, decS]
 have x1 := lS (o := 0) gx rfl
 have y1 := lS (o := 0) gy rfl
 refine .bnd x1 (.bnd y1 ?_)
 by_cases c1 : x.1 = y.1
 rotate_left
 ·exact .ifp (by simp [beq_ba, c1]) (.bnd x1 (.bnd y1 (.of ⟨by simp [rlessI, c1, less_eq], kk⟩)))
 refine .ifn (by simp [beq_ba, c1]) ?_
 have r7 : (AHeap.resv H2 2).get h.next = some (.cells (itC x) 57 true 0) := gx
 have r7y : (AHeap.resv H2 2).get H1.next = some (.cells (itC y) 57 true 0) := gy
 have ldx : ldA 5 ⟨h.next, 1, none⟩ (AHeap.resv H2 2) = some ((itC x).drop 1) := by simp only [ldA, AHeap.rdL, r7]; rfl
 refine .bnd ldx (.bnd (show decC [.s, .i .i64, .i .i64, .i .i64, .i .i64] ((itC x).drop 1) = some x.2 from rfl) ?_)
 obtain ⟨h10, e10⟩ : ∃ h10, h10 = AHeap.set (AHeap.resv H2 2) (H2.next + 0) (.cells [.string ⟨#[]⟩, .int .i64 0, .int .i64 0, .int .i64 0, .int .i64 0] 55 true 0) := ⟨_, rfl⟩
 rw [← e10]
 obtain ⟨h11, e11⟩ : ∃ h11, h11 = AHeap.set h10 (H2.next + 1) (.cells [.string ⟨#[]⟩, .int .i64 0, .int .i64 0, .int .i64 0, .int .i64 0] 55 true 0) := ⟨_, rfl⟩
 rw [← e11]
 have n10 : h10.next = H2.next + 2 := by rw [e10]; rfl
 have n11 : h11.next = H2.next + 2 := by rw [e11]; simp [n10]
 have ga : h11.get (H2.next + 0) = some (.cells [.string ⟨#[]⟩, .int .i64 0, .int .i64 0, .int .i64 0, .int .i64 0] 55 true 0) := by rw [e11, e10]; simp
 have gb : h11.get (H2.next + 1) = some (.cells [.string ⟨#[]⟩, .int .i64 0, .int .i64 0, .int .i64 0, .int .i64 0] 55 true 0) := by rw [e11]; simp
 have y10 : h10.get H1.next = some (.cells (itC y) 57 true 0) := by rw [e10]; simp only [AHeap.get_set]; rw [if_neg (by omega)]; exact r7y
 have y11 : h11.get H1.next = some (.cells (itC y) 57 true 0) := by rw [e11]; simp only [AHeap.get_set]; rw [if_neg (by omega)]; exact y10
 have k11 : Keeps H2 h11 := ⟨by omega, fun b hb _ => by
  rw [e11, e10]; simp only [AHeap.get_set]
  rw [if_neg (by omega), if_neg (by omega)]; rfl⟩
 refine Wp.stL ga rfl rfl rfl (by decide) fun H12 c12 n12 g12 => ?_
 have k12 : Keeps H2 H12 := k11.keepsS c12 fun b hb => by subst hb; omega
 have y12 : H12.get H1.next = some (.cells (itC y) 57 true 0) := c12.got (by omega) (by omega) y11
 have gb12 := c12.got (by omega) (by omega) gb
 have ldy : ∀ {H : AHeap}, H.get H1.next = some (.cells (itC y) 57 true 0) → ldA 5 ⟨H1.next, 1, none⟩ H = some ((itC y).drop 1) := fun hb => by simp only [ldA, AHeap.rdL, hb]; rfl
 refine .bnd (ldy y12) (.gp (fun H hH => ?_) (.bnd (show decC [.s, .i .i64, .i .i64, .i .i64, .i .i64] ((itC y).drop 1) = some y.2 from rfl) (Wp.stL gb12 rfl rfl rfl (by decide) fun H13 c13 n13 g13 => ?_)))
 ·simp only [List.mem_cons, List.not_mem_nil, or_false] at hH
  dsimp only
  rcases hH with e | e | e
  ·rw [e, ldy y11]; rfl
  ·rw [e, ldy y10]; rfl
  ·rw [e, ldy r7y]; rfl
 have k13 : Keeps h H13 := kk.trans (k12.keepsS c13 fun b hb => by subst hb; omega)
 have ga13 : H13.get (H2.next + 0) = some (.cells ((itC x).drop 1) 55 true 0) := c13.got (by omega) (by omega) g12
 have gb13 : H13.get (H2.next + 1) = some (.cells ((itC y).drop 1) 55 true 0) := g13
 have p0 := lS (o := 0) ga13 rfl; have q0 := lS (o := 0) gb13 rfl
 have p1 := sldI_at (sp := none) (o := 1) ga13 rfl; have q1 := sldI_at (sp := none) (o := 1) gb13 rfl
 have p2 := sldI_at (sp := none) (o := 2) ga13 rfl; have q2 := sldI_at (sp := none) (o := 2) gb13 rfl
 have p3 := sldI_at (sp := none) (o := 3) ga13 rfl; have q3 := sldI_at (sp := none) (o := 3) gb13 rfl
 have p4 := sldI_at (sp := none) (o := 4) ga13 rfl; have q4 := sldI_at (sp := none) (o := 4) gb13 rfl
 refine .bnd p0 (.bnd q0 ?_)
 by_cases c2 : x.2.1 = y.2.1
 rotate_left
 ·exact .ifp (by simp [beq_ba, c2]) (.bnd p0 (.bnd q0 (.of ⟨by simp [rlessI, c1, c2, less_eq], k13⟩)))
 refine .ifn (by simp [beq_ba, c2]) (.bnd p2 (.bnd q2 ?_))
 by_cases c3 : x.2.2.2.1 = y.2.2.2.1
 rotate_left
 ·exact .ifp (by simp [c3]) (.bnd p2 (.bnd q2 (.of ⟨by simp [rlessI, c1, c2, c3], k13⟩)))
 refine .ifn (by simp [c3]) (.bnd p3 (.bnd q3 ?_))
 by_cases c4 : x.2.2.2.2.1 = y.2.2.2.2.1
 rotate_left
 ·exact .ifp (by simp [c4]) (.bnd p3 (.bnd q3 (.of ⟨by simp [rlessI, c1, c2, c3, c4], k13⟩)))
 refine .ifn (by simp [c4]) (.bnd p4 (.bnd q4 ?_))
 by_cases c5 : x.2.2.2.2.2 = y.2.2.2.2.2
 rotate_left
 ·exact .ifp (by simp [c5]) (.bnd p4 (.bnd q4 (.of ⟨by simp [rlessI, c1, c2, c3, c4, c5], k13⟩)))
 exact .ifn (by simp [c5]) (.bnd p1 (.bnd q1 (.of ⟨by simp [rlessI, c1, c2, c3, c4, c5], k13⟩)))
end
end Gc
namespace Gc
open Go Gx
noncomputable def DD (k : Nat) : CallF := mkC noC [e_lookup_order k noC, e_lookup_Table_Places_1 k noC, e_lookup_Table_Drop_1 k noC]
theorem DD_sound (k : Nat) : CSound Go.Proofs.Try.prog 0 (DD k) :=
 mkC_sound noC_sound (EntsOk.more (ok_lookup_order noC_sound k) (EntsOk.more (ok_lookup_Table_Places_1 noC_sound k) (EntsOk.more (ok_lookup_Table_Drop_1 noC_sound k) EntsOk.none)))
theorem dd_order {R : Type} {Q : R → Prop} {k : Nat} (hk : 100 ≤ k) {x y : It} {h : AHeap} {κ : Value → AHeap → Option R} {C : CallF} (hC : C = DD k) (kt : ∀ h', Keeps h h' → Gx.Wp (κ (.int .i64 (ord x y)) h') Q) :
  Gx.Wp (callD C (.func (.func 78) ⟨[]⟩ ⟨[]⟩) [.agg ⟨itC x⟩, .agg ⟨itC y⟩] h κ) Q := by
 subst hC
 show Gx.Wp ((lookup_order k noC x y h).bind fun r => κ (.int .i64 r.1) r.2) Q
 refine .call (order_spec noC hk x y h) fun r ⟨q1, q2⟩ => ?_
 rw [q1]; exact kt _ q2
theorem dd_places {R : Type} {Q : R → Prop} {k : Nat} {x : It} {id : ByteArray} {h : AHeap} {κ : Value → AHeap → Option R} {C : CallF} (hC : C = DD k) (kt : ∀ h', Keeps h h' → Gx.Wp (κ (.int .i64 (cmpB x.1 id)) h') Q) :
  Gx.Wp (callD C (.func (.func 127) ⟨[]⟩ ⟨[]⟩) [.agg ⟨itC x⟩, .string id] h κ) Q := by
 subst hC
 show Gx.Wp ((lookup_Table_Places_1 k noC x id h).bind fun r => κ (.int .i64 r.1) r.2) Q
 simp only [lookup_Table_Places_1]
 refine .call (P := fun r => r.1 = cmpB x.1 id ∧ Keeps h r.2) (Wp.newE fun H1 e1 k1 n1 g1 => ?_) fun r ⟨q1, q2⟩ => by rw [q1]; exact kt _ q2
 exact .bnd (show ldS ⟨h.next, 0, none⟩ H1 = some x.1 by simp [ldS, AHeap.rd1, g1, decS]) (.bnd (cmpS_spec k noC _ _ _) (.of ⟨rfl, k1⟩))
section
variable {k : Nat} {h : AHeap} {s : Slc} {xs : List It}
theorem half {i j : Nat} (hi : i < j) (hj : j ≤ 1000000000) : IntKind.wrap .i64 (Int.fdiv (IntKind.wrap .u64 (IntKind.wrap .i64 ((i : Int) + (j : Int)))) 2) = (((i + j) / 2 : Nat) : Int) := by
 have e1 : IntKind.wrap .i64 ((i : Int) + (j : Int)) = ((i + j : Nat) : Int) := by rw [Gx.w64 _ (by omega)]; omega
 have e2 : IntKind.wrap .u64 ((i + j : Nat) : Int) = ((i + j : Nat) : Int) := Gx.wr_u64 _ (by omega) (by omega)
 rw [e1, e2, Int.fdiv_eq_ediv_of_nonneg _ (by omega), Gx.w64 _ (by omega)]
 omega
theorem search_spec (hk : 100 ≤ k) (hkx : xs.length + 10 ≤ k) (R : RowW 6 itC h s xs) (hl : xs.length ≤ 1000000000) (x : It) {p : Nat} (hp : p ≤ xs.length) (h1 : ∀ i y, i < p → xs[i]? = some y → ord y x < 0) (h2 : ∀ i y, p ≤ i → xs[i]? = some y → ¬ ord y x < 0) :
  Gx.Wp (slices_BinarySearchFunc_api_Item_api_Item_api_Item k (DD k) s x (.func (.func 78) ⟨[]⟩ ⟨[]⟩) h) fun z => z.1.1 = (p : Int) ∧ (z.1.2 = true ↔ ∃ y, xs[p]? = some y ∧ ord y x = 0) ∧ Keeps h z.2 := by
 simp only [slices_BinarySearchFunc_api_Item_api_Item_api_Item]
 refine Wp.newE fun H1 e1 k1 n1 g1 => Wp.jn fun j8 hj => ?_
 unfold slices_BinarySearchFunc_api_Item_api_Item_api_Item_l0
 obtain ⟨bot, eb⟩ := iterK_of (fun _ _ _ _ _ _ _ => none) (slices_BinarySearchFunc_api_Item_api_Item_api_Item_l0b k (DD k) j8) (show xs.length + 1 ≤ k by omega)
 rw [eb]
 have loop : ∀ (d i j : Nat) (H : AHeap), j - i ≤ d → i ≤ p → p ≤ j → j ≤ xs.length → Keeps H1 H →
   Gx.Wp (iterK bot (d + 1) (slices_BinarySearchFunc_api_Item_api_Item_api_Item_l0b k (DD k) j8) s (.func (.func 78) ⟨[]⟩ ⟨[]⟩) (some ⟨h.next, 0, none⟩) (s.len : Int) (i : Int) (j : Int) H) fun z => z.1.1 = (p : Int) ∧ (z.1.2 = true ↔ ∃ y, xs[p]? = some y ∧ ord y x = 0) ∧ Keeps h z.2 := fun d => by
  induction d with
  | zero =>
   intro i j H hd hi hj' hjl kp
   obtain rfl : i = p := by omega
   obtain rfl : j = i := by omega
   rw [iterK_s]; simp only [slices_BinarySearchFunc_api_Item_api_Item_api_Item_l0b]
   refine .ifn (by simp) ?_
   rw [hj]
   by_cases c : j < xs.length
   ·obtain ⟨y, hy⟩ := isome c
    obtain ⟨q, b1, b2, _⟩ := (R.keeps (k1.trans kp)).ld itC_len (by decide) hy
    have gt := kp.got (by omega) g1
    refine .ifp (by rw [R.len]; simp; omega) (.bnd b1 (.bnd b2 (.bnd (decI6 y) (.bnd rfl (.bnd (sldA_at gt rfl) (.bnd (decI6 x) (dd_order (x := y) (y := x) hk rfl fun h' k' => .bnd rfl (.of ⟨rfl, ?_, (k1.trans kp).trans k'⟩))))))))
    simp [hy]
   ·refine .ifn (by rw [R.len]; simp; omega) (.of ⟨rfl, ?_, k1.trans kp⟩)
    simp only [Bool.false_eq_true, false_iff, not_exists, not_and]
    intro y hy
    rw [List.getElem?_eq_none (by omega)] at hy; cases hy
  | succ d ih =>
   intro i j H hd hi hj' hjl kp
   rw [iterK_s]; simp only [slices_BinarySearchFunc_api_Item_api_Item_api_Item_l0b]
   by_cases c : i < j
   ·obtain ⟨y, hy⟩ := isome (l := xs) (i := (i + j) / 2) (by omega)
    obtain ⟨q, b1, b2, _⟩ := (R.keeps (k1.trans kp)).ld itC_len (by decide) hy
    have gt := kp.got (by omega) g1
    refine .ifp (by simp; omega) ?_
    rw [half c (by omega)]
    refine .bnd b1 (.bnd b2 (.bnd (decI6 y) (.bnd rfl (.bnd (sldA_at gt rfl) (.bnd (decI6 x) (dd_order (x := y) (y := x) hk rfl fun h' k' => .bnd rfl ?_))))))
    by_cases c2 : ord y x < 0
    ·refine .ifp (by simpa using c2) ?_
     rw [Gx.w1 (by omega)]
     refine ih _ j h' (by omega) ?_ hj' hjl (kp.trans k')
     rcases Nat.lt_or_ge ((i + j) / 2) p with g | g
     ·exact g
     ·exact absurd c2 (h2 _ y g hy)
    ·refine .ifn (by simpa using c2) ?_
     refine ih i _ h' (by omega) hi ?_ (by omega) (kp.trans k')
     rcases Nat.lt_or_ge ((i + j) / 2) p with g | g
     ·exact absurd (h1 _ y g hy) c2
     ·exact g
   ·have := ih i j H (by omega) hi hj' hjl kp
    cases d with
    | zero =>
     rw [iterK_s] at this; simp only [slices_BinarySearchFunc_api_Item_api_Item_api_Item_l0b] at this
     rw [if_neg (by simp; omega)] at this ⊢
     exact this
    | succ d =>
     rw [iterK_s] at this; simp only [slices_BinarySearchFunc_api_Item_api_Item_api_Item_l0b] at this
     rw [if_neg (by simp; omega)] at this ⊢
     exact this
 have := loop xs.length 0 xs.length H1 (by omega) (by omega) hp (Nat.le_refl _) (.refl _ _)
 have e : ((xs.length : Nat) : Int) = (s.len : Int) := by rw [R.len]
 rw [e] at this
 exact this
theorem searchId_spec (hkx : xs.length + 10 ≤ k) (R : RowW 6 itC h s xs) (hl : xs.length ≤ 1000000000) (id : ByteArray) {p : Nat} (hp : p ≤ xs.length) (h1 : ∀ i y, i < p → xs[i]? = some y → cmpB y.1 id < 0) (h2 : ∀ i y, p ≤ i → xs[i]? = some y → ¬ cmpB y.1 id < 0) :
  Gx.Wp (slices_BinarySearchFunc_api_Item_api_Item_string k (DD k) s id (.func (.func 127) ⟨[]⟩ ⟨[]⟩) h) fun z => z.1.1 = (p : Int) ∧ Keeps h z.2 := by
 simp only [slices_BinarySearchFunc_api_Item_api_Item_string]
 refine Wp.jn fun j7 hj => ?_
 unfold slices_BinarySearchFunc_api_Item_api_Item_string_l0
 obtain ⟨bot, eb⟩ := iterK_of (fun _ _ _ _ _ _ _ => none) (slices_BinarySearchFunc_api_Item_api_Item_string_l0b k (DD k) j7) (show xs.length + 1 ≤ k by omega)
 rw [eb]
 have fin : ∀ (H : AHeap), Keeps h H → Gx.Wp (j7 s id (.func (.func 127) ⟨[]⟩ ⟨[]⟩) (s.len : Int) (p : Int) H) fun z => z.1.1 = (p : Int) ∧ Keeps h z.2 := by
  intro H kp
  rw [hj]
  by_cases c : p < xs.length
  ·obtain ⟨y, hy⟩ := isome c
   obtain ⟨q, b1, b2, _⟩ := (R.keeps kp).ld itC_len (by decide) hy
   exact .ifp (by rw [R.len]; simp; omega) (.bnd b1 (.bnd b2 (.bnd (decI6 y) (dd_places (x := y) (id := id) rfl fun h' k' => .bnd rfl (.of ⟨rfl, kp.trans k'⟩)))))
  ·exact .ifn (by rw [R.len]; simp; omega) (.of ⟨rfl, kp⟩)
 have loop : ∀ (d i j : Nat) (H : AHeap), j - i ≤ d → i ≤ p → p ≤ j → j ≤ xs.length → Keeps h H →
   Gx.Wp (iterK bot (d + 1) (slices_BinarySearchFunc_api_Item_api_Item_string_l0b k (DD k) j7) s id (.func (.func 127) ⟨[]⟩ ⟨[]⟩) (s.len : Int) (i : Int) (j : Int) H) fun z => z.1.1 = (p : Int) ∧ Keeps h z.2 := fun d => by
  induction d with
  | zero =>
   intro i j H hd hi hj' hjl kp
   obtain rfl : i = p := by omega
   obtain rfl : j = i := by omega
   rw [iterK_s]; simp only [slices_BinarySearchFunc_api_Item_api_Item_string_l0b]
   exact .ifn (by simp) (fin H kp)
  | succ d ih =>
   intro i j H hd hi hj' hjl kp
   rw [iterK_s]; simp only [slices_BinarySearchFunc_api_Item_api_Item_string_l0b]
   by_cases c : i < j
   ·obtain ⟨y, hy⟩ := isome (l := xs) (i := (i + j) / 2) (by omega)
    obtain ⟨q, b1, b2, _⟩ := (R.keeps kp).ld itC_len (by decide) hy
    refine .ifp (by simp; omega) ?_
    rw [half c (by omega)]
    refine .bnd b1 (.bnd b2 (.bnd (decI6 y) (dd_places (x := y) (id := id) rfl fun h' k' => .bnd rfl ?_)))
    by_cases c2 : cmpB y.1 id < 0
    ·refine .ifp (by simpa using c2) ?_
     rw [Gx.w1 (by omega)]
     refine ih _ j h' (by omega) ?_ hj' hjl (kp.trans k')
     rcases Nat.lt_or_ge ((i + j) / 2) p with g | g
     ·exact g
     ·exact absurd c2 (h2 _ y g hy)
    ·refine .ifn (by simpa using c2) ?_
     refine ih i _ h' (by omega) hi ?_ (by omega) (kp.trans k')
     rcases Nat.lt_or_ge ((i + j) / 2) p with g | g
     ·exact absurd (h1 _ y g hy) c2
     ·exact g
   ·obtain rfl : i = p := by omega
    exact .ifn (by simp; omega) (fin H kp)
 have := loop xs.length 0 xs.length h (by omega) (by omega) hp (Nat.le_refl _) (.refl _ _)
 have e : ((xs.length : Nat) : Int) = (s.len : Int) := by rw [R.len]
 rw [e] at this
 exact this
end
end Gc
namespace Gc
open Go Gx
structure SlotB (base : Nat) (h : AHeap) (tb b : Nat) (sp : Option Nat) (cap : Nat) (R : List Value) (s : Slc) (xs : List It) : Prop where
 s : s = ⟨some ⟨b, 0, sp⟩, xs.length, cap⟩
 blk : h.get b = some (.cells (xs.flatMap itC ++ R) 57 true 0)
 one : allOne R = true
 ge : base ≤ b
 lt : b < h.next
 ne : b ≠ tb
 le : xs.length ≤ cap
 room : cap * 6 ≤ xs.length * 6 + R.length
 sp : (sp = some 7 ∧ cap ≠ 0) ∨ (sp = some 0 ∧ cap = 0)
def SlotR (base : Nat) (h : AHeap) (tb : Nat) (s : Slc) (xs : List It) : Prop := (s = ⟨none, 0, 0⟩ ∧ xs = []) ∨ ∃ b sp cap R, SlotB base h tb b sp cap R s xs
section
variable {base tb : Nat} {h h' : AHeap} {s : Slc} {xs : List It}
theorem SlotR.chg {S : Nat → Prop} (A : SlotR base h tb s xs) (c : Chg S h h') (hs : ∀ a, s.a = some a → ¬ S a.block) : SlotR base h' tb s xs := by
 rcases A with A | ⟨b, sp, cap, R, A⟩
 ·exact .inl A
 ·exact .inr ⟨b, sp, cap, R, A.s, (c.oth b A.lt (hs ⟨b, 0, sp⟩ (by rw [A.s]))).trans A.blk, A.one, A.ge, Nat.lt_of_lt_of_le A.lt c.nx, A.ne, A.le, A.room, A.sp⟩
theorem SlotR.keeps (A : SlotR base h tb s xs) (c : Keeps h h') : SlotR base h' tb s xs := A.chg c fun _ _ f => f
theorem SlotR.len (A : SlotR base h tb s xs) : s.len = xs.length := by
 rcases A with ⟨rfl, rfl⟩ | ⟨b, sp, cap, R, A⟩
 ·rfl
 ·rw [A.s]
theorem flat_get {ys : List It} {R : List Value} {i : Nat} {x : It} (hx : ys[i]? = some x) (j : Nat) (v : Value) (hv : (itC x)[j]? = some v) : (ys.flatMap itC ++ R)[i * 6 + j]? = some v := by
 have := flatW_get itC_len hx j v hv
 rw [List.getElem?_append_left (List.getElem?_eq_some_iff.1 this).1]; exact this
theorem SlotR.row (A : SlotR base h tb s xs) : RowW 6 itC h s xs := by
 rcases A with ⟨rfl, rfl⟩ | ⟨b, sp, cap, R, A⟩
 ·exact RowW.nil _ _ _ _ _
 ·rw [A.s]
  exact ⟨rfl, fun i x hx => ⟨_, _, _, _, _, rfl, A.lt, A.blk, fun j v hv => by rw [Nat.zero_add]; exact flat_get hx j v hv⟩⟩
theorem SlotR.own (A : SlotR base h tb s xs) : ∀ a, s.a = some a → base ≤ a.block ∧ a.block < h.next ∧ a.block ≠ tb := by
 rcases A with ⟨rfl, rfl⟩ | ⟨b, sp, cap, R, A⟩
 ·intro a ha; cases ha
 ·intro a ha; rw [A.s] at ha; cases ha; exact ⟨A.ge, A.lt, A.ne⟩
theorem flat_len (ys : List It) : (ys.flatMap itC).length = ys.length * 6 := flatW_length itC_len ys
theorem flat_take (ys : List It) : ∀ p, (ys.flatMap itC).take (p * 6) = (ys.take p).flatMap itC
 | 0 => by simp
 | p + 1 => by
  cases ys with
  | nil => simp
  | cons y ys =>
   have e : (p + 1) * 6 = (itC y).length + p * 6 := by rw [itC_len]; omega
   rw [List.flatMap_cons, e, List.take_length_add_append, flat_take ys p]
   simp
theorem flat_drop (ys : List It) : ∀ p, (ys.flatMap itC).drop (p * 6) = (ys.drop p).flatMap itC
 | 0 => by simp
 | p + 1 => by
  cases ys with
  | nil => simp
  | cons y ys =>
   have e : (p + 1) * 6 = (itC y).length + p * 6 := by rw [itC_len]; omega
   rw [List.flatMap_cons, e, List.drop_length_add_append, flat_drop ys p]
   simp
theorem flat_one (ys : List It) : allOne (ys.flatMap itC) = true := flatW_one itC_one ys
theorem ins_spec (k : Nat) (D : CallF) (A : SlotR base h tb s xs) (hb : base ≤ h.next) (htb : tb < h.next) (x : It) {p : Nat} (hp : p ≤ xs.length) (hl : xs.length ≤ 1000000000) {vb : Nat} (hv : h.get vb = some (.cells (itC x) 57 true 0)) (_hvl : vb < h.next) (hne : ∀ a, s.a = some a → a.block ≠ vb) :
  ∃ s' h', slices_Insert_api_Item_api_Item k D s (p : Int) ⟨some ⟨vb, 0, some 0⟩, 1, 1⟩ h = some (s', h') ∧ SlotR base h' tb s' (xs.take p ++ x :: xs.drop p) ∧ Chg (ofS s) h h' ∧ ∀ a, s'.a = some a → h.next ≤ a.block ∨ ∃ b, s.a = some b ∧ b.block = a.block := by
 have er : rdS 6 (⟨some ⟨vb, 0, some 0⟩, 1, 1⟩ : Slc) h = some (itC x) := by
  simp only [rdS]
  rw [rdL_ok hv (by simp [itC])]
  rfl
 have F : slices_Insert_api_Item_api_Item0 k D = insF 6 64 57 [.string ⟨#[]⟩, .string ⟨#[]⟩, .int .i64 0, .int .i64 0, .int .i64 0, .int .i64 0] := f_slices_Insert_api_Item_api_Item0 k D
 simp only [slices_Insert_api_Item_api_Item]
 rw [F]
 rcases A with ⟨rfl, rfl⟩ | ⟨b, sp, cap, R, A⟩
 ·have hp0 : p = 0 := by simpa using hp
  subst hp0
  have e0 : insOk 6 64 57 (⟨none, 0, 0⟩ : Slc) ((0 : Nat) : Int) (⟨some ⟨vb, 0, some 0⟩, 1, 1⟩ : Slc) h = none := rfl
  refine ⟨⟨some ⟨h.next, 0, some 7⟩, 1, 1⟩, h.new (.cells (itC x) 57 true 0), ?_, .inr ⟨h.next, some 7, 1, [], by simp, by simp, rfl, hb, by simp, by omega, by simp, by simp, .inl ⟨rfl, by decide⟩⟩, Chg.new _ _, fun a ha => by cases ha; exact .inl (Nat.le_refl _)⟩
  unfold insA
  rw [e0]
  unfold insF
  have e1 : Gx.subL 6 (⟨none, 0, 0⟩ : Slc) (some ((0 : Nat) : Int)) none none = some ⟨none, 0, 0⟩ := rfl
  rw [e1, Option.bind_some, if_neg (by simp), if_pos (by simp), er, Option.bind_some]
  rfl
 ·have hs := A.s
  by_cases hpe : p = xs.length
  ·-- behind all
   subst hpe
   have e0 : insOk 6 64 57 s ((xs.length : Nat) : Int) (⟨some ⟨vb, 0, some 0⟩, 1, 1⟩ : Slc) h = none := by
    rw [hs]
    unfold insOk
    simp only [A.blk, hv]
    rw [if_neg]
    intro q
    have := q.2.2.2.2.2.2.1
    omega
   have e1 : Gx.subL 6 s (some ((xs.length : Nat) : Int)) none none ≠ none := by
    rw [hs]
    have hsp : spOk sp 6 = true := by rcases A.sp with ⟨rfl, _⟩ | ⟨rfl, _⟩ <;> rfl
    have := A.le
    simp only [Gx.subL, Option.getD_none, Option.getD_some, hsp, if_true]
    rw [if_pos (by omega)]
    simp
   obtain ⟨t1, e1⟩ := Option.ne_none_iff_exists'.1 e1
   rw [List.take_length, List.drop_length]
   have run : ∀ {s' : Slc} {h' : AHeap}, appendA 6 64 57 h s (itC x) 1 = some (s', h') → insA 6 64 57 (insF 6 64 57 [.string ⟨#[]⟩, .string ⟨#[]⟩, .int .i64 0, .int .i64 0, .int .i64 0, .int .i64 0]) s ((xs.length : Nat) : Int) ⟨some ⟨vb, 0, some 0⟩, 1, 1⟩ h = some (s', h') := fun ea => by
    unfold insA
    rw [e0]
    unfold insF
    rw [e1, Option.bind_some, if_neg (by simp), if_pos (by rw [hs]; simp), er, Option.bind_some, ea]
    rfl
   have efl : (xs ++ [x]).flatMap itC = xs.flatMap itC ++ itC x := by simp
   by_cases hroom : xs.length + 1 ≤ cap
   ·-- in place
    have hRl : 6 ≤ R.length := by have := A.room; omega
    have hw : h.wrL b (xs.length * 6) (itC x) = some (h.set b (.cells (splice (xs.flatMap itC ++ R) (xs.length * 6) (itC x)) 57 true 0)) :=
     wrL_ok A.blk (by rw [List.length_append, flat_len, itC_len]; omega) rfl (by simp [itC])
    have esp : splice (xs.flatMap itC ++ R) (xs.length * 6) (itC x) = (xs ++ [x]).flatMap itC ++ R.drop 6 := by
     unfold splice
     rw [itC_len, ← flat_len xs, List.take_left, List.drop_append, List.drop_of_length_le (by omega), efl]
     simp
    refine ⟨⟨some ⟨b, 0, sp⟩, xs.length + 1, cap⟩, h.set b (.cells ((xs ++ [x]).flatMap itC ++ R.drop 6) 57 true 0), run ?_, .inr ⟨b, sp, cap, R.drop 6, by simp, by simp, ?_, A.ge, by simpa using A.lt, A.ne, by simp; omega, ?_, A.sp⟩, Chg.set (.inr ⟨⟨b, 0, sp⟩, by rw [hs], rfl⟩), fun a ha => by cases ha; exact .inr ⟨⟨b, 0, sp⟩, by rw [hs], rfl⟩⟩
    ·rw [hs]
     unfold appendA
     simp only
     rw [if_pos (by omega), if_neg (by decide), Nat.zero_add, hw, esp]
     rfl
    ·exact allOne_sub A.one fun v hv => List.mem_of_mem_drop hv
    ·rw [List.length_drop]; have := A.room; simp; omega
   ·-- elsewhere
    have hcap : cap = xs.length := by have := A.le; omega
    refine ⟨⟨some ⟨h.next, 0, some 7⟩, xs.length + 1, xs.length + 1⟩, (if cap = 0 then h else h.kill b).new (.cells ((xs ++ [x]).flatMap itC) 57 true 0), run ?_, .inr ⟨h.next, some 7, xs.length + 1, [], by simp, ?_, rfl, hb, ?_, by omega, by simp, by simp, .inl ⟨rfl, by omega⟩⟩, ?_, fun a ha => by cases ha; exact .inl (Nat.le_refl _)⟩
    ·rw [hs]
     unfold appendA
     simp only
     rw [if_neg (by omega), if_pos (by omega)]
     rcases A.sp with ⟨rfl, h0⟩ | ⟨rfl, h0⟩
     ·simp only [A.blk]
      rw [if_pos ⟨h0, trivial, by rw [List.length_append, flat_len]; omega, Nat.zero_le _, trivial, trivial, rfl⟩, if_neg h0, ← flat_len xs, List.take_left, efl]
     ·have hx0 : xs = [] := List.length_eq_zero_iff.1 (by omega)
      subst hx0
      simp [AHeap.rdL, h0]
    ·split <;> simp
    ·split <;> simp
    ·by_cases h0 : cap = 0
     ·rw [if_pos h0]; exact Chg.new _ _
     ·rw [if_neg h0]; exact Chg.kill_new (.inr ⟨⟨b, 0, sp⟩, by rw [hs], rfl⟩)
  ·-- in between
   have hpl : p < xs.length := by omega
   have hcap : cap ≠ 0 := by have := A.le; omega
   have hsp : sp = some 7 := by rcases A.sp with ⟨e, _⟩ | ⟨_, e⟩; exact e; exact absurd e hcap
   subst hsp
   have htk : (xs.flatMap itC ++ R).take (xs.length * 6) = xs.flatMap itC := by rw [← flat_len xs, List.take_left]
   have e0 : insOk 6 64 57 s (p : Int) (⟨some ⟨vb, 0, some 0⟩, 1, 1⟩ : Slc) h = some (xs.flatMap itC ++ R, itC x, b, vb) := by
    rw [hs]
    unfold insOk
    simp only [A.blk, hv]
    rw [if_pos]
    refine ⟨hne ⟨b, 0, some 7⟩ (by rw [hs]), trivial, trivial, trivial, trivial, by omega, by omega, by rw [List.length_append, flat_len]; omega, trivial, by simp [itC], by decide, rfl, ?_, by omega, by decide, A.le⟩
    rw [htk]; exact flat_one xs
   refine ⟨⟨some ⟨h.next, 0, some 7⟩, xs.length + 1, xs.length + 1⟩, (h.kill b).new (.cells ((xs.take p ++ x :: xs.drop p).flatMap itC) 57 true 0), ?_, .inr ⟨h.next, some 7, xs.length + 1, [], by simp; omega, by simp, rfl, hb, by simp, by omega, by simp; omega, by simp; omega, .inl ⟨rfl, by omega⟩⟩, Chg.kill_new (.inr ⟨⟨b, 0, some 7⟩, by rw [hs], rfl⟩), fun a ha => by cases ha; exact .inl (Nat.le_refl _)⟩
   unfold insA
   rw [e0]
   have ei : insC 6 (xs.flatMap itC ++ R) (itC x) xs.length p = (xs.take p ++ x :: xs.drop p).flatMap itC := by
    unfold insC
    rw [htk, List.take_append_of_le_length (by rw [flat_len]; omega), flat_take, flat_drop]
    simp [itC]
   simp only [hs, Int.toNat_natCast, ei]
end
end Gc
namespace Gc
open Go Gx
def Lx {α β : Type} (lt : α → α → Prop) (R : β → β → Prop) (x y : α × β) : Prop := lt x.1 y.1 ∨ x.1 = y.1 ∧ R x.2 y.2
theorem Lx.trans {α β : Type} {lt : α → α → Prop} {R : β → β → Prop} (h1 : ∀ a b c, lt a b → lt b c → lt a c) (h2 : ∀ a b c, R a b → R b c → R a c) : ∀ x y z : α × β, Lx lt R x y → Lx lt R y z → Lx lt R x z := by
 rintro ⟨a, b⟩ ⟨c, d⟩ ⟨e, f⟩ (p | ⟨p, p'⟩) (q | ⟨q, q'⟩)
 ·exact .inl (h1 _ _ _ p q)
 ·simp only at q p; subst q; exact .inl p
 ·simp only at q p; subst p; exact .inl q
 ·simp only at q p; subst p; subst q; exact .inr ⟨rfl, h2 _ _ _ p' q'⟩
theorem Lx.total {α β : Type} {lt : α → α → Prop} {R : β → β → Prop} (h1 : ∀ a b, lt a b ∨ a = b ∨ lt b a) (h2 : ∀ a b, R a b ∨ a = b ∨ R b a) : ∀ x y : α × β, Lx lt R x y ∨ x = y ∨ Lx lt R y x := by
 rintro ⟨a, b⟩ ⟨c, d⟩
 rcases h1 a c with h | h | h
 ·exact .inl (.inl h)
 ·subst h
  rcases h2 b d with g | g | g
  ·exact .inl (.inr ⟨rfl, g⟩)
  ·subst g; exact .inr (.inl rfl)
  ·exact .inr (.inr (.inr ⟨rfl, g⟩))
 ·exact .inr (.inr (.inl h))
def ltB (a b : ByteArray) : Prop := bl a < bl b
theorem ltB_trans (a b c : ByteArray) (h1 : ltB a b) (h2 : ltB b c) : ltB a c := List.lt_trans h1 h2
theorem ltB_total (a b : ByteArray) : ltB a b ∨ a = b ∨ ltB b a := by
 by_cases c : bl a < bl b
 ·exact .inl c
 ·by_cases d : bl b < bl a
  ·exact .inr (.inr d)
  ·exact .inr (.inl (bl_inj (List.le_antisymm (List.not_lt.1 d) (List.not_lt.1 c))))
def ltZ (a b : Int) : Prop := a < b
theorem ltZ_trans (a b c : Int) (h1 : ltZ a b) (h2 : ltZ b c) : ltZ a c := Int.lt_trans h1 h2
theorem ltZ_total (a b : Int) : ltZ a b ∨ a = b ∨ ltZ b a := by unfold ltZ; omega
def keyI (x : It) : ByteArray × ByteArray × Int × Int × Int × Int := (x.1, x.2.1, x.2.2.2.1, x.2.2.2.2.1, x.2.2.2.2.2, x.2.2.1)
theorem keyI_inj {x y : It} (h : keyI x = keyI y) : x = y := by
 obtain ⟨a, b, c, d, e, f⟩ := x
 obtain ⟨a', b', c', d', e', f'⟩ := y
 simp only [keyI, Prod.mk.injEq] at h
 obtain ⟨rfl, rfl, rfl, rfl, rfl, rfl⟩ := h
 rfl
def ltI : ByteArray × ByteArray × Int × Int × Int × Int → ByteArray × ByteArray × Int × Int × Int × Int → Prop := Lx ltB (Lx ltB (Lx ltZ (Lx ltZ (Lx ltZ ltZ))))
theorem lessI_iff (x y : It) : lessI x y = true ↔ ltI (keyI x) (keyI y) := by
 rw [less_same]
 unfold rlessI ltI Lx keyI ltB ltZ
 simp only
 by_cases c1 : x.1 = y.1
 rotate_left
 ·simp [c1]
 by_cases c2 : x.2.1 = y.2.1
 rotate_left
 ·simp [c1, c2, List.lt_irrefl]
 by_cases c3 : x.2.2.2.1 = y.2.2.2.1
 rotate_left
 ·simp [c1, c2, c3, List.lt_irrefl]
 by_cases c4 : x.2.2.2.2.1 = y.2.2.2.2.1
 rotate_left
 ·simp [c1, c2, c3, c4, List.lt_irrefl]
 by_cases c5 : x.2.2.2.2.2 = y.2.2.2.2.2
 rotate_left
 ·simp [c1, c2, c3, c4, c5, List.lt_irrefl]
 simp [c1, c2, c3, c4, c5, List.lt_irrefl]
theorem lessI_trans {x y z : It} (h1 : lessI x y = true) (h2 : lessI y z = true) : lessI x z = true := by
 rw [lessI_iff] at *
 exact Lx.trans ltB_trans (Lx.trans ltB_trans (Lx.trans ltZ_trans (Lx.trans ltZ_trans (Lx.trans ltZ_trans ltZ_trans)))) _ _ _ h1 h2
theorem lessI_total (x y : It) : lessI x y = true ∨ x = y ∨ lessI y x = true := by
 rw [lessI_iff, lessI_iff]
 rcases Lx.total ltB_total (Lx.total ltB_total (Lx.total ltZ_total (Lx.total ltZ_total (Lx.total ltZ_total ltZ_total)))) (keyI x) (keyI y) with h | h | h
 ·exact .inl h
 ·exact .inr (.inl (keyI_inj h))
 ·exact .inr (.inr h)
theorem ord_zero {x y : It} : ord x y = 0 ↔ x = y := by
 constructor
 ·intro h
  have e : ∀ (c : Int) (l : List Int), orL (c :: l) = 0 → c = 0 ∧ orL l = 0 := fun c l h => by
   simp only [orL] at h
   by_cases hc : c = 0
   ·simp [hc] at h; exact ⟨hc, h⟩
   ·simp [hc] at h
  unfold ord ordL at h
  obtain ⟨a1, h⟩ := e _ _ h
  obtain ⟨a2, h⟩ := e _ _ h
  obtain ⟨a3, h⟩ := e _ _ h
  obtain ⟨a4, h⟩ := e _ _ h
  obtain ⟨a5, h⟩ := e _ _ h
  obtain ⟨a6, h⟩ := e _ _ h
  rw [cmpB_zero] at a1 a2
  rw [cmpI_zero] at a3 a4 a5 a6
  exact keyI_inj (by simp [keyI, a1, a2, a3, a4, a5, a6])
 ·rintro rfl
  have b : ∀ a : ByteArray, cmpB a a = 0 := fun a => cmpB_zero.2 rfl
  have i : ∀ a : Int, cmpI a a = 0 := fun a => cmpI_zero.2 rfl
  simp [ord, ordL, orL, b, i]
theorem lessI_irrefl (x : It) : lessI x x = false := by
 have : ord x x = 0 := ord_zero.2 rfl
 simp [lessI, this]
theorem lessI_asymm {x y : It} (h : lessI x y = true) : lessI y x = false := by
 cases c : lessI y x
 ·rfl
 ·have := lessI_trans h c
  rw [lessI_irrefl] at this; cases this
def Rises (xs : List It) : Prop := xs.Pairwise fun x y => lessI x y = true
def posI (x : It) (xs : List It) : Nat := (xs.takeWhile fun y => lessI y x).length
open Classical in
noncomputable def putI (x : It) (xs : List It) : List It := if x ∈ xs then xs else (xs.takeWhile fun y => lessI y x) ++ x :: xs.dropWhile fun y => lessI y x
theorem posI_le (x : It) (xs : List It) : posI x xs ≤ xs.length := by
 unfold posI
 exact (List.takeWhile_sublist _).length_le
theorem take_pos (x : It) (xs : List It) : xs.take (posI x xs) = xs.takeWhile fun y => lessI y x := by
 unfold posI
 induction xs with
 | nil => rfl
 | cons y xs ih =>
  by_cases c : lessI y x = true
  ·simp [c, ih]
  ·simp [c]
theorem drop_pos (x : It) (xs : List It) : xs.drop (posI x xs) = xs.dropWhile fun y => lessI y x := by
 unfold posI
 induction xs with
 | nil => rfl
 | cons y xs ih =>
  by_cases c : lessI y x = true
  ·simp [c, ih]
  ·simp [c]
theorem pos_ahead {x : It} : ∀ {xs : List It} {i : Nat} {y : It}, i < posI x xs → xs[i]? = some y → lessI y x = true
 | [], i, y, h, _ => by simp [posI] at h
 | z :: xs, i, y, h, hy => by
  unfold posI at h
  by_cases c : lessI z x = true
  ·simp only [List.takeWhile_cons, c, if_true, List.length_cons] at h
   cases i with
   | zero => simp at hy; subst hy; exact c
   | succ i => exact pos_ahead (xs := xs) (i := i) (by unfold posI; omega) (by simpa using hy)
  ·simp [c] at h
theorem pos_behind {x : It} : ∀ {xs : List It} {i : Nat} {y : It}, Rises xs → posI x xs ≤ i → xs[i]? = some y → lessI y x = false
 | [], i, y, _, _, hy => by simp at hy
 | z :: xs, i, y, hr, h, hy => by
  unfold posI at h
  unfold Rises at hr
  rw [List.pairwise_cons] at hr
  by_cases c : lessI z x = true
  ·simp only [List.takeWhile_cons, c, if_true, List.length_cons] at h
   cases i with
   | zero => omega
   | succ i => exact pos_behind (xs := xs) (i := i) hr.2 (by unfold posI; omega) (by simpa using hy)
  ·have c' : lessI z x = false := by simpa using c
   cases i with
   | zero => simp at hy; subst hy; exact c'
   | succ i =>
    have hz := hr.1 y (List.mem_of_getElem? (by simpa using hy))
    cases d : lessI y x
    ·rfl
    ·rw [lessI_trans hz d] at c'; cases c'
theorem pos_found {x : It} {xs : List It} (hr : Rises xs) : (∃ y, xs[posI x xs]? = some y ∧ ord y x = 0) ↔ x ∈ xs := by
 constructor
 ·rintro ⟨y, hy, h⟩
  rw [ord_zero] at h
  subst h
  exact List.mem_of_getElem? hy
 ·intro hx
  obtain ⟨i, hi, e⟩ := List.getElem_of_mem hx
  have hx' : xs[i]? = some x := by rw [← e]; exact List.getElem?_eq_getElem hi
  have h1 : posI x xs ≤ i := Nat.le_of_not_lt fun q => by
   have := pos_ahead q hx'
   rw [lessI_irrefl] at this; cases this
  have hlt : posI x xs < xs.length := by omega
  obtain ⟨y, hy⟩ := isome hlt
  refine ⟨y, hy, ord_zero.2 ?_⟩
  by_cases e2 : posI x xs = i
  ·rw [e2, hx'] at hy; cases hy; rfl
  ·have hlt2 : posI x xs < i := by omega
   have hyx : lessI y x = true := by
    have hp := List.pairwise_iff_getElem.1 hr (posI x xs) i hlt (by omega) hlt2
    have e3 : xs[posI x xs] = y := (List.getElem?_eq_some_iff.1 hy).2
    rw [e3, e] at hp; exact hp
   rw [pos_behind hr (Nat.le_refl _) hy] at hyx; cases hyx
theorem put_mem {x y : It} {xs : List It} : y ∈ putI x xs ↔ y = x ∨ y ∈ xs := by
 unfold putI
 split
 ·rename_i h
  constructor
  ·exact .inr
  ·rintro (rfl | h')
   ·exact h
   ·exact h'
 ·have e := List.takeWhile_append_dropWhile (p := fun y => lessI y x) (l := xs)
  constructor
  ·intro h
   rcases List.mem_append.1 h with h | h
   ·exact .inr ((List.takeWhile_sublist _).subset h)
   ·rcases List.mem_cons.1 h with h | h
    ·exact .inl h
    ·exact .inr ((List.dropWhile_sublist _).subset h)
  ·rintro (rfl | h)
   ·simp
   ·rw [← e] at h
    rcases List.mem_append.1 h with h | h
    ·exact List.mem_append_left _ h
    ·exact List.mem_append_right _ (List.mem_cons_of_mem _ h)
theorem put_rises {x : It} {xs : List It} (hr : Rises xs) : Rises (putI x xs) := by
 unfold putI
 split
 ·exact hr
 ·rename_i hx
  have ht : ∀ y ∈ xs.takeWhile (fun y => lessI y x), lessI y x = true := fun y hy => by
   rw [← take_pos] at hy
   obtain ⟨i, hi, e⟩ := List.getElem_of_mem hy
   have : (xs.take (posI x xs))[i]? = some y := by rw [← e]; exact List.getElem?_eq_getElem hi
   rw [List.getElem?_take] at this
   split at this
   ·rename_i hlt; exact pos_ahead hlt this
   ·cases this
  have hd : ∀ y ∈ xs.dropWhile (fun y => lessI y x), lessI x y = true := fun y hy => by
   rw [← drop_pos] at hy
   obtain ⟨i, hi, e⟩ := List.getElem_of_mem hy
   have h1 : (xs.drop (posI x xs))[i]? = some y := by rw [← e]; exact List.getElem?_eq_getElem hi
   rw [List.getElem?_drop] at h1
   have h2 := pos_behind hr (Nat.le_add_right _ _) h1
   rcases lessI_total x y with h | h | h
   ·exact h
   ·subst h; exact absurd (List.mem_of_getElem? h1) hx
   ·rw [h] at h2; cases h2
  unfold Rises at hr ⊢
  rw [List.pairwise_append, List.pairwise_cons]
  refine ⟨hr.sublist (List.takeWhile_sublist _), ⟨hd, hr.sublist (List.dropWhile_sublist _)⟩, fun a ha b hb => ?_⟩
  rcases List.mem_cons.1 hb with rfl | hb
  ·exact ht a ha
  ·exact lessI_trans (ht a ha) (hd b hb)
theorem put_len (x : It) (xs : List It) : (putI x xs).length ≤ xs.length + 1 := by
 unfold putI
 split
 ·omega
 ·have e := congrArg List.length (List.takeWhile_append_dropWhile (p := fun y => lessI y x) (l := xs))
  simp only [List.length_append, List.length_cons] at e ⊢
  omega
theorem rises_ext {xs ys : List It} (h1 : Rises xs) (h2 : Rises ys) (h : ∀ x, x ∈ xs ↔ x ∈ ys) : xs = ys := by
 have nd : ∀ {l : List It}, Rises l → l.Nodup := fun hr => List.Pairwise.imp (fun {a b} hab e => by subst e; rw [lessI_irrefl] at hab; cases hab) hr
 have pm : xs.Perm ys := (List.perm_ext_iff_of_nodup (nd h1) (nd h2)).2 h
 exact pm.eq_of_pairwise (fun a b _ _ hab hba => by rw [lessI_asymm hab] at hba; cases hba) h1 h2
end Gc
namespace Gc
open Go Gx
def idx (id : ByteArray) : Nat := match bl id with
 | [] => 0
 | b :: _ => b.toNat
theorem idx_lt (id : ByteArray) : idx id < 256 := by
 unfold idx
 split
 ·omega
 ·rename_i b _ _; exact b.toNat_lt
def tabC (sl : Nat → Slc) : List Value := (List.range 256).map fun i => .slice (sl i).a (sl i).len (sl i).cap
theorem tabC_len (sl : Nat → Slc) : (tabC sl).length = 256 := by simp [tabC]
theorem tabC_get (sl : Nat → Slc) {i : Nat} (hi : i < 256) : (tabC sl)[i]? = some (.slice (sl i).a (sl i).len (sl i).cap) := by simp [tabC, hi]
def upd {α : Type} (f : Nat → α) (i : Nat) (x : α) : Nat → α := fun j => if j = i then x else f j
theorem tabC_set (sl : Nat → Slc) {i : Nat} (s : Slc) : (tabC sl).set i (.slice s.a s.len s.cap) = tabC (upd sl i s) := by
 apply List.ext_getElem?
 intro j
 rw [List.getElem?_set, tabC_len]
 by_cases hj : j < 256
 ·rw [tabC_get _ hj, tabC_get _ hj]
  by_cases e : i = j
  ·subst e; simp [hj, upd]
  ·simp [e, upd, Ne.symm e]
 ·rw [List.getElem?_eq_none (l := tabC sl) (by rw [tabC_len]; omega), List.getElem?_eq_none (l := tabC _) (by rw [tabC_len]; omega)]
  split <;> simp_all
def TOwn (tb : Nat) (sl : Nat → Slc) (y : Nat) : Prop := y = tb ∨ ∃ i, i < 256 ∧ ∃ a, (sl i).a = some a ∧ a.block = y
structure Tab (base : Nat) (h : AHeap) (tb : Nat) (sl : Nat → Slc) (F : Nat → List It) : Prop where
 blk : h.get tb = some (.cells (tabC sl) 123 true 0)
 lt : tb < h.next
 ge : base ≤ tb
 slot : ∀ i, i < 256 → SlotR base h tb (sl i) (F i)
 apart : ∀ i j a b, i < 256 → j < 256 → i ≠ j → (sl i).a = some a → (sl j).a = some b → a.block ≠ b.block
section
variable {base tb : Nat} {h h' : AHeap} {sl : Nat → Slc} {F : Nat → List It}
theorem Tab.own (T : Tab base h tb sl F) {y : Nat} (hy : TOwn tb sl y) : base ≤ y ∧ y < h.next := by
 rcases hy with rfl | ⟨i, hi, a, ha, rfl⟩
 ·exact ⟨T.ge, T.lt⟩
 ·have := (T.slot i hi).own a ha; exact ⟨this.1, this.2.1⟩
theorem Tab.chg {S : Nat → Prop} (T : Tab base h tb sl F) (c : Chg S h h') (hs : ∀ y, TOwn tb sl y → ¬ S y) : Tab base h' tb sl F :=
 ⟨(c.oth tb T.lt (hs tb (.inl rfl))).trans T.blk, Nat.lt_of_lt_of_le T.lt c.nx, T.ge, fun i hi => (T.slot i hi).chg c fun a ha => hs _ (.inr ⟨i, hi, a, ha, rfl⟩), T.apart⟩
theorem Tab.keeps (T : Tab base h tb sl F) (c : Keeps h h') : Tab base h' tb sl F := T.chg c fun _ _ f => f
theorem Tab.ext {G : Nat → List It} (T : Tab base h tb sl F) (e : ∀ i, i < 256 → F i = G i) : Tab base h tb sl G := ⟨T.blk, T.lt, T.ge, fun i hi => e i hi ▸ T.slot i hi, T.apart⟩
theorem tabC_new : List.replicate 256 (Value.slice none 0 0) = tabC fun _ => ⟨none, 0, 0⟩ := by
 apply List.ext_getElem?
 intro j
 rw [List.getElem?_replicate]
 by_cases hj : j < 256
 ·rw [tabC_get _ hj, if_pos hj]
 ·rw [if_neg hj, List.getElem?_eq_none (by rw [tabC_len]; omega)]
theorem new_spec (k : Nat) (D : CallF) (h : AHeap) : ∃ h', lookup_New k D h = some (some ⟨h.next, 0, none⟩, h') ∧ Keeps h h' ∧ Tab h.next h' h.next (fun _ => ⟨none, 0, 0⟩) (fun _ => []) := by
 unfold lookup_New
 rw [tabC_new]
 exact ⟨_, rfl, Keeps.new h _, by simp, by simp, Nat.le_refl _, fun i _ => .inl ⟨rfl, rfl⟩, fun i j a b _ _ _ ha => by cases ha⟩
theorem list_spec (k : Nat) (D : CallF) (tb : Nat) (id : ByteArray) (h : AHeap) : lookup_Table_list k D (some ⟨tb, 0, none⟩) id h = some (some ⟨tb, idx id, none⟩, h) := by
 simp only [lookup_Table_list, beq_ba]
 by_cases c : id = ⟨#[]⟩
 ·subst c
  rw [if_pos (by simp)]
  rfl
 ·rw [if_neg (by simp [c])]
  obtain ⟨b, t, e⟩ : ∃ b t, bl id = b :: t := List.exists_cons_of_ne_nil fun e => c (bl_inj (by rw [e]; rfl))
  have e1 : idxS id ((0 : Nat) : Int) = some (b.toNat : Int) := idxS_of (by rw [e]; rfl)
  have e2 : idx id = b.toNat := by unfold idx; rw [e]
  have e3 : idxA 256 1 ⟨tb, 0 + 0, none⟩ (b.toNat : Int) = some ⟨tb, 0 + 0 + b.toNat, none⟩ := sidxA0 b.toNat_lt
  refine bnd e1 (bnd rfl (bnd e3 ?_))
  rw [e2]; simp
theorem Tab.slotT {s' : Slc} {xs : List It} {i : Nat} (T : Tab base h tb sl F) (hi : i < 256) (c : Chg (ofS (sl i)) h h') (A : SlotR base h' tb s' xs) (hs : ∀ a, s'.a = some a → h.next ≤ a.block ∨ ∃ b, (sl i).a = some b ∧ b.block = a.block) :
  ∃ h2, st1 ⟨tb, i, none⟩ (.slice s'.a s'.len s'.cap) h' = some h2 ∧ Tab base h2 tb (upd sl i s') (upd F i xs) ∧ Chg (TOwn tb sl) h h2 ∧ ∀ y, TOwn tb (upd sl i s') y → h.next ≤ y ∨ TOwn tb sl y := by
 have htb : ¬ ofS (sl i) tb := fun ⟨a, ha, e⟩ => ((T.slot i hi).own a ha).2.2 e.symm
 have gb : h'.get tb = some (.cells (tabC sl) 123 true 0) := (c.oth tb T.lt htb).trans T.blk
 have e1 := st1_of (sp := none) (v := .slice s'.a s'.len s'.cap) gb (o := i) (by rw [tabC_len]; exact hi) rfl
 rw [tabC_set] at e1
 have nx := c.nx
 have c2 : Chg (· = tb) h' (h'.set tb (.cells (tabC (upd sl i s')) 123 true 0)) := Chg.set (.inr rfl)
 have own' : ∀ j, j < 256 → j ≠ i → ∀ a, (sl j).a = some a → ∀ b, s'.a = some b → a.block ≠ b.block := fun j hj hji a ha b hb => by
  have o1 := (T.slot j hj).own a ha
  rcases hs b hb with h1 | ⟨b2, h1, h2⟩
  ·omega
  ·rw [← h2]; exact T.apart j i a b2 hj hi hji ha h1
 refine ⟨_, e1, ⟨by simp, Nat.lt_of_lt_of_le T.lt nx, T.ge, fun j hj => ?_, fun j l a b hj hl hjl ha hb => ?_⟩, ?_, ?_⟩
 ·by_cases e : j = i
  ·subst e
   simp only [upd, if_true]
   exact A.chg c2 fun a ha e2 => (A.own a ha).2.2 e2
  ·simp only [upd, e, if_false]
   refine ((T.slot j hj).chg c fun a ha ⟨b, hb, e2⟩ => T.apart j i a b hj hi e ha hb e2).chg c2 fun a ha e2 => ((T.slot j hj).own a ha).2.2 e2
 ·simp only [upd] at ha hb
  by_cases e : j = i
  ·have el : l ≠ i := fun q => hjl (e.trans q.symm)
   rw [if_pos e] at ha; rw [if_neg el] at hb
   exact Ne.symm (own' l hl el b hb a ha)
  ·rw [if_neg e] at ha
   by_cases e2 : l = i
   ·rw [if_pos e2] at hb; exact own' j hj e a ha b hb
   ·rw [if_neg e2] at hb; exact T.apart j l a b hj hl hjl ha hb
 ·refine Chg.beh (T := (· = tb)) (c.wk fun y _ ⟨a, ha, e⟩ => .inr ⟨i, hi, a, ha, e.symm⟩) c2 fun y _ e => .inl e
 ·rintro y (rfl | ⟨j, hj, a, ha, rfl⟩)
  ·exact .inr (.inl rfl)
  ·simp only [upd] at ha
   by_cases e : j = i
   ·rw [if_pos e] at ha
    rcases hs a ha with h1 | ⟨b, h1, h2⟩
    ·exact .inl h1
    ·exact .inr (.inr ⟨i, hi, b, h1, h2⟩)
   ·rw [if_neg e] at ha
    exact .inr (.inr ⟨j, hj, a, ha, rfl⟩)
end
noncomputable def addF (F : Nat → List It) (x : It) : Nat → List It := upd F (idx x.1) (putI x (F (idx x.1)))
def RisesT (F : Nat → List It) : Prop := ∀ i, i < 256 → Rises (F i)
theorem addF_rises {F : Nat → List It} (hr : RisesT F) (x : It) : RisesT (addF F x) := fun i hi => by
 unfold addF upd
 split
 ·exact put_rises (hr _ (idx_lt _))
 ·exact hr i hi
def MaxT (F : Nat → List It) (n : Nat) : Prop := ∀ i, i < 256 → (F i).length ≤ n
theorem addF_max {F : Nat → List It} {n : Nat} (hm : MaxT F n) (x : It) : MaxT (addF F x) (n + 1) := fun i hi => by
 unfold addF upd
 split
 ·exact Nat.le_trans (put_len _ _) (by have := hm _ (idx_lt x.1); omega)
 ·have := hm i hi; omega
noncomputable def addL (F : Nat → List It) (xs : List It) : Nat → List It := xs.foldl addF F
theorem addL_rises : ∀ {xs : List It} {F : Nat → List It}, RisesT F → RisesT (addL F xs)
 | [], _, h => h
 | x :: xs, _, h => addL_rises (xs := xs) (addF_rises h x)
theorem addL_max : ∀ {xs : List It} {F : Nat → List It} {n : Nat}, MaxT F n → MaxT (addL F xs) (n + xs.length)
 | [], _, _, h => h
 | x :: xs, F, n, h => by
  have := addL_max (xs := xs) (addF_max h x)
  rw [List.length_cons, show n + (xs.length + 1) = n + 1 + xs.length by omega]; exact this
section
variable {k base tb : Nat} {h : AHeap} {sl : Nat → Slc} {F : Nat → List It} {s : Slc} {xs : List It}
theorem add_l0 (hk : 100 ≤ k) (bot) (j : AHeap → Option (Int × AHeap)) {Q : Int × AHeap → Prop} (R : RowW 6 itC h s xs) {N : Nat} (hN : N + xs.length ≤ 1000000000) (hkN : N + xs.length + 10 ≤ k) (hs : ∀ a, s.a = some a → ¬ TOwn tb sl a.block) (hb : base ≤ h.next)
  (hj : ∀ H sl', Tab base H tb sl' (addL F xs) → Chg (TOwn tb sl) h H → (∀ y, TOwn tb sl' y → h.next ≤ y ∨ TOwn tb sl y) → Gx.Wp (j H) Q) (_T : Tab base h tb sl F) (hr : RisesT F) (hm : MaxT F N) :
  ∀ (d i : Nat) (H : AHeap) (sl' : Nat → Slc), i + d = xs.length → Tab base H tb sl' (addL F (xs.take i)) → Chg (TOwn tb sl) h H → (∀ y, TOwn tb sl' y → h.next ≤ y ∨ TOwn tb sl y) →
   Gx.Wp (iterK bot (d + 1) (lookup_Table_Add_l0b k (DD k) j) (some ⟨tb, 0, none⟩) s (s.len : Int) (i : Int) H) Q := by
 intro d
 induction d with
 | zero =>
  intro i H sl' hd T' c ho
  obtain rfl : i = xs.length := by omega
  rw [List.take_length] at T'
  rw [iterK_s]; simp only [lookup_Table_Add_l0b]
  exact .ifn (by rw [R.len]; simp) (hj H sl' T' c ho)
 | succ d ih =>
  intro i H sl' hd T' c ho
  rw [iterK_s]; simp only [lookup_Table_Add_l0b]
  obtain ⟨x, hx⟩ := isome (l := xs) (i := i) (by omega)
  have RH : RowW 6 itC H s xs := R.chg c hs
  obtain ⟨q, b1, b2, _⟩ := RH.ld itC_len (by decide) hx
  have nH := c.nx
  have hi256 := idx_lt x.1
  refine .ifp (by rw [R.len]; simp; omega) (Gx.Wp.jn fun j18 h18 => .bnd b1 (.bnd b2 (.bnd (decI6 x) (Wp.newE fun H1 e1 k1 n1 g1 => Wp.stL g1 rfl rfl rfl (by decide) fun H2 c2 n2 g2 => ?_))))
  have k2 : Keeps H H2 := k1.keepsS c2 fun y hy => by subst hy; omega
  have gx : H2.get H.next = some (.cells (itC x) 57 true 0) := g2
  have T2 := T'.keeps k2
  have hrx : RisesT (addL F (xs.take i)) := addL_rises hr
  have hmx : MaxT (addL F (xs.take i)) (N + i) := by have := addL_max (xs := xs.take i) hm; rwa [List.length_take, Nat.min_eq_left (by omega)] at this
  have S2 := T2.slot _ hi256
  have hln := hmx _ hi256
  have nx : addL F (xs.take (i + 1)) = addF (addL F (xs.take i)) x := by
   rw [show xs.take (i + 1) = xs.take i ++ [x] by rw [List.take_add_one, hx]; rfl]
   unfold addL; rw [List.foldl_append]; rfl
  have next : ∀ (H' : AHeap) (sl2 : Nat → Slc), Tab base H' tb sl2 (addL F (xs.take (i + 1))) → Chg (TOwn tb sl) h H' → (∀ y, TOwn tb sl2 y → h.next ≤ y ∨ TOwn tb sl y) → Gx.Wp (j18 (some ⟨tb, 0, none⟩) s (s.len : Int) (i : Int) H') Q := fun H' sl2 t1 t2 t3 => by
   rw [h18]
   dsimp only
   rw [Gx.w1 (by omega)]
   exact ih (i + 1) H' sl2 (by omega) t1 t2 t3
  refine .bnd (show ldS ⟨H.next, 0, none⟩ H2 = some x.1 by simp [ldS, AHeap.rd1, gx, itC, decS]) (.bnd (list_spec k _ tb x.1 H2) (.bnd rfl (.bnd (sldL_at T2.blk (tabC_get _ hi256)) (.bnd (sldA_at gx rfl) (.bnd (decI6 x) ?_)))))
  refine .call (search_spec hk (by omega) S2.row (by omega) x (posI_le x _) (fun i2 y hi2 hy => by have := pos_ahead hi2 hy; simpa [lessI] using this) (fun i2 y hi2 hy => by have := pos_behind (hrx _ hi256) hi2 hy; simpa [lessI] using this)) fun r30 ⟨q1, q2, k3⟩ => ?_
  rw [pos_found (hrx _ hi256)] at q2
  have k3' := k2.trans k3
  have T3 := T2.keeps k3
  have gx3 := k3.got (by omega) gx
  by_cases hin : x ∈ addL F (xs.take i) (idx x.1)
  ·have : r30.1.2 = true := q2.2 hin
   refine .ifn (by simp [this]) (next r30.2 sl' ?_ (Chg.beh c k3' fun y _ f => f.elim) ho)
   rw [nx]
   refine T3.ext fun l hl => ?_
   unfold addF upd
   split
   ·rename_i e; rw [e]; unfold putI; rw [if_pos hin]
   ·rfl
  ·have : r30.1.2 = false := by cases e : r30.1.2; rfl; exact absurd (q2.1 e) hin
   refine .ifp (by simp [this]) (.bnd (sldA_at gx3 rfl) (.bnd (decI6 x) (Wp.newE fun H4 e4 k4 n4 g4 => ?_)))
   have T4 := T3.keeps k4
   have gx4 : H4.get r30.2.next = some (.cells (itC x) 57 true 0) := g4
   have l4 := sldL_at (sp := none) T4.blk (tabC_get _ hi256)
   have l3 := sldL_at (sp := none) T3.blk (tabC_get _ hi256)
   have n3 := k3'.nx
   refine .bnd rfl (.bnd l4 (.gp (ssw1 (by rw [l3]; rfl)) ?_))
   have S4 := T4.slot _ hi256
   obtain ⟨s', h5, a1, A5, c5, d5⟩ := ins_spec k (DD k) S4 (by omega) T4.lt x (posI_le x _) (by omega) gx4 (by omega) (fun a ha => by have := ((T3.slot _ hi256).own a ha).2.1; omega)
   rw [q1]
   refine .bnd a1 (.bnd rfl ?_)
   obtain ⟨h6, a6, T6, c6, o6⟩ := T4.slotT hi256 c5 A5 d5
   refine .bnd a6 (next h6 (upd sl' (idx x.1) s') ?_ ?_ ?_)
   ·rw [nx]
    refine T6.ext fun l hl => ?_
    unfold addF upd
    split
    ·unfold putI; rw [if_neg hin, take_pos, drop_pos]
    ·rfl
   ·refine Chg.beh c (Chg.trans (S := TOwn tb sl') ((k3'.trans k4).keeps) c6) fun y hy z => ?_
    rcases ho y z with h1 | h1
    ·omega
    ·exact h1
   ·intro y hy
    rcases o6 y hy with h1 | h1
    ·have := k4.nx; left; omega
    ·exact ho y h1
theorem add_spec (hk : 100 ≤ k) (R : RowW 6 itC h s xs) {N : Nat} (hN : N + xs.length ≤ 1000000000) (hkN : N + xs.length + 10 ≤ k) (hs : ∀ a, s.a = some a → ¬ TOwn tb sl a.block) (hb : base ≤ h.next) (T : Tab base h tb sl F) (hr : RisesT F) (hm : MaxT F N) (hok : ∀ x ∈ xs, okI x) :
  Gx.Wp (lookup_Table_Add k (DD k) (some ⟨tb, 0, none⟩) s h) fun z => z.1 = 0 ∧ ∃ sl', Tab base z.2 tb sl' (addL F xs) ∧ Chg (TOwn tb sl) h z.2 ∧ ∀ y, TOwn tb sl' y → h.next ≤ y ∨ TOwn tb sl y := by
 simp only [lookup_Table_Add]
 refine Gx.Wp.jn fun j4 h4 => ?_
 unfold lookup_Table_Add_l1
 obtain ⟨bot, eb⟩ := iterK_of (fun _ _ _ _ _ _ => none) (lookup_Table_Add_l1b k (DD k) j4) (show xs.length + 1 ≤ k by omega)
 rw [eb]
 have loop : ∀ (d i : Nat) (H : AHeap), i + d = xs.length → Keeps h H → Gx.Wp (iterK bot (d + 1) (lookup_Table_Add_l1b k (DD k) j4) (some ⟨tb, 0, none⟩) s s (s.len : Int) (i : Int) H) fun z => z.1 = 0 ∧ ∃ sl', Tab base z.2 tb sl' (addL F xs) ∧ Chg (TOwn tb sl) h z.2 ∧ ∀ y, TOwn tb sl' y → h.next ≤ y ∨ TOwn tb sl y := fun d => by
  induction d with
  | zero =>
   intro i H hd kp
   obtain rfl : i = xs.length := by omega
   rw [iterK_s]; simp only [lookup_Table_Add_l1b]
   refine .ifn (by rw [R.len]; simp) ?_
   rw [h4]
   refine Gx.Wp.jn fun j6 h6 => ?_
   unfold lookup_Table_Add_l0
   obtain ⟨bot2, eb2⟩ := iterK_of (fun _ _ _ _ _ => none) (lookup_Table_Add_l0b k (DD k) j6) (show xs.length + 1 ≤ k by omega)
   rw [eb2]
   have nH := kp.nx
   exact add_l0 hk bot2 j6 (R.keeps kp) hN hkN hs (by omega) (fun H2 sl' t1 t2 t3 => by rw [h6]; exact .of ⟨rfl, sl', t1, Chg.trans kp.keeps t2, fun y hy => by rcases t3 y hy with q | q; left; omega; exact .inr q⟩) (T.keeps kp) hr hm xs.length 0 H sl (by omega) (T.keeps kp) (.refl _ _) (fun y hy => .inr hy)
  | succ d ih =>
   intro i H hd kp
   rw [iterK_s]; simp only [lookup_Table_Add_l1b]
   obtain ⟨x, hx⟩ := isome (l := xs) (i := i) (by omega)
   obtain ⟨q, b1, b2, _⟩ := (R.keeps kp).ld itC_len (by decide) hx
   refine .ifp (by rw [R.len]; simp; omega) (.bnd b1 (.bnd b2 (.bnd (decI6 x) (Wp.newE fun H1 e1 k1 n1 g1 => Wp.stL g1 rfl rfl rfl (by decide) fun H2 c2 n2 g2 => ?_))))
   have k2 : Keeps h H2 := kp.trans (k1.keepsS c2 fun y hy => by subst hy; omega)
   have gx : H2.get H.next = some (.cells (itC x) 57 true 0) := g2
   refine .bnd (sldA_at gx rfl) (.bnd (decI6 x) (.call (check_spec k _ x H2) fun r ⟨q1, q2⟩ => ?_))
   have h0 : r.1 = 0 := by rw [q1]; unfold chkI; rw [if_pos (hok x (mem_of hx))]
   refine .ifn (by simp [h0]) ?_
   rw [Gx.w1 (by omega)]
   exact ih (i + 1) r.2 (by omega) (k2.trans q2)
 exact loop xs.length 0 h (by omega) (.refl _ _)
end
end Gc
namespace Gc
open Go Gx
abbrev Pl := ByteArray × Int × Int × Int × Int
def plC (x : Pl) : List Value := [.string x.1, .int .i64 x.2.1, .int .i64 x.2.2.1, .int .i64 x.2.2.2.1, .int .i64 x.2.2.2.2]
theorem plC_len (x : Pl) : (plC x).length = 5 := rfl
theorem plC_one (x : Pl) : allOne (plC x) = true := rfl
theorem decP5 (x : Pl) : decC [.s, .i .i64, .i .i64, .i .i64, .i .i64] (plC x) = some x := rfl
def noPl : Pl := (⟨#[]⟩, 0, 0, 0, 0)
def posId (id : ByteArray) (xs : List It) : Nat := (xs.takeWhile fun y => decide (bl y.1 < bl id)).length
theorem less_ids {x y : It} (h : lessI x y = true) : bl x.1 < bl y.1 ∨ x.1 = y.1 := by
 rw [lessI_iff] at h
 rcases h with h | ⟨h, _⟩
 ·exact .inl h
 ·exact .inr h
theorem posId_ahead {id : ByteArray} : ∀ {xs : List It} {i : Nat} {y : It}, i < posId id xs → xs[i]? = some y → bl y.1 < bl id
 | [], i, y, h, _ => by simp [posId] at h
 | z :: xs, i, y, h, hy => by
  unfold posId at h
  by_cases c : bl z.1 < bl id
  ·simp only [List.takeWhile_cons, c, decide_true, if_true, List.length_cons] at h
   cases i with
   | zero => simp at hy; subst hy; exact c
   | succ i => exact posId_ahead (xs := xs) (i := i) (by unfold posId; omega) (by simpa using hy)
  ·simp [c] at h
theorem posId_behind {id : ByteArray} : ∀ {xs : List It} {i : Nat} {y : It}, Rises xs → posId id xs ≤ i → xs[i]? = some y → ¬ bl y.1 < bl id
 | [], i, y, _, _, hy => by simp at hy
 | z :: xs, i, y, hr, h, hy => by
  unfold posId at h
  unfold Rises at hr
  rw [List.pairwise_cons] at hr
  by_cases c : bl z.1 < bl id
  ·simp only [List.takeWhile_cons, c, decide_true, if_true, List.length_cons] at h
   cases i with
   | zero => omega
   | succ i => exact posId_behind (xs := xs) (i := i) hr.2 (by unfold posId; omega) (by simpa using hy)
  ·cases i with
   | zero => simp at hy; subst hy; exact c
   | succ i =>
    rcases less_ids (hr.1 y (List.mem_of_getElem? (by simpa using hy))) with g | g
    ·exact fun d => c (List.lt_trans g d)
    ·rw [← g]; exact c
theorem posId_le (id : ByteArray) (xs : List It) : posId id xs ≤ xs.length := (List.takeWhile_sublist _).length_le
theorem run_eq (id : ByteArray) : ∀ {xs : List It}, Rises xs → (xs.drop (posId id xs)).takeWhile (fun y => decide (y.1 = id)) = xs.filter fun y => decide (y.1 = id)
 | [], _ => rfl
 | z :: xs, hr => by
  have hr' := hr
  unfold Rises at hr'
  rw [List.pairwise_cons] at hr'
  have ih := run_eq id (xs := xs) hr'.2
  by_cases c : bl z.1 < bl id
  ·have hne : ¬ z.1 = id := fun e => by rw [e] at c; exact List.lt_irrefl _ c
   have e : posId id (z :: xs) = posId id xs + 1 := by simp [posId, c]
   rw [e, List.drop_succ_cons, ih]
   simp [hne]
  ·have e : posId id (z :: xs) = 0 := by simp [posId, c]
   rw [e, List.drop_zero]
   by_cases d : z.1 = id
   ·have e0 : posId id xs = 0 := by
     cases xs with
     | nil => rfl
     | cons y ys =>
      have := posId_behind (id := id) hr (i := 1) (y := y) (by omega) rfl
      simp [posId, this]
    rw [e0, List.drop_zero] at ih
    simp [d, ih]
   ·have hall : ∀ y ∈ xs, ¬ y.1 = id := fun y hy e2 => by
     have hgt : bl id < bl z.1 := by
      rcases ltB_total id z.1 with g | g | g
      ·exact g
      ·exact absurd g.symm d
      ·exact absurd g c
     rcases less_ids (hr'.1 y hy) with g | g
     ·rw [e2] at g; exact List.lt_irrefl _ (List.lt_trans hgt g)
     ·exact d (g.trans e2)
    have : (xs.filter fun y => decide (y.1 = id)) = [] := List.filter_eq_nil_iff.2 fun y hy => by simpa using hall y hy
    simp [d, this]
def placesL (xs : List It) (id : ByteArray) : List Pl := (xs.filter fun y => decide (y.1 = id)).map (·.2)
section
variable {k base tb : Nat} {h : AHeap} {sl : Nat → Slc} {F : Nat → List It} {s : Slc} {xs : List It}
theorem places_l0 (_hkx : xs.length + 10 ≤ k) (R : RowW 6 itC h s xs) (hl : xs.length ≤ 1000000000) (hr : Rises xs) (id : ByteArray) (j) (hj : j = fun (out5 : Slc) (h6 : AHeap) => some (out5, h6)) (bot) :
  ∀ (d i : Nat) (out : Slc) (H : AHeap), i + d = xs.length → Keeps h H → posId id xs ≤ i → AccW 5 plC 55 h.next H out (((xs.drop (posId id xs)).take (i - posId id xs)).map (·.2)) → (∀ t y, posId id xs ≤ t → t < i → xs[t]? = some y → y.1 = id) →
   Gx.Wp (iterK bot (d + 1) (lookup_Table_Places_l0b k (DD k) j) id out s (i : Int) H) fun z => AccW 5 plC 55 h.next z.2 z.1 (placesL xs id) ∧ Keeps h z.2 := by
 have stop : ∀ (i : Nat), posId id xs ≤ i → i ≤ xs.length → (∀ t y, posId id xs ≤ t → t < i → xs[t]? = some y → y.1 = id) → (∀ y, xs[i]? = some y → ¬ y.1 = id) → ((xs.drop (posId id xs)).take (i - posId id xs)).map (·.2) = placesL xs id := by
  intro i h1 h2 h3 h4
  unfold placesL
  rw [← run_eq id hr]
  congr 1
  have e := (List.take_append_drop (i - posId id xs) (xs.drop (posId id xs))).symm
  rw [List.drop_drop, show posId id xs + (i - posId id xs) = i by omega] at e
  have ha : ∀ y ∈ (xs.drop (posId id xs)).take (i - posId id xs), decide (y.1 = id) = true := fun y hy => by
   obtain ⟨t, ht, e1⟩ := List.getElem_of_mem hy
   have h5 : ((xs.drop (posId id xs)).take (i - posId id xs))[t]? = some y := by rw [← e1]; exact List.getElem?_eq_getElem ht
   rw [List.getElem?_take] at h5
   split at h5
   ·rw [List.getElem?_drop] at h5
    exact decide_eq_true (h3 _ y (Nat.le_add_right _ _) (by omega) h5)
   ·cases h5
  have hd : (xs.drop i).takeWhile (fun y => decide (y.1 = id)) = [] := by
   cases hxd : xs.drop i with
   | nil => rfl
   | cons y ys =>
    have : xs[i]? = some y := by
     have := congrArg (·[0]?) hxd
     simpa [List.getElem?_drop] using this
    simp [h4 y this]
  have e3 := congrArg (List.takeWhile fun y => decide (y.1 = id)) e
  rw [List.takeWhile_append_of_pos ha, hd, List.append_nil] at e3
  exact e3.symm
 intro d
 induction d with
 | zero =>
  intro i out H hd kp hp A hall
  obtain rfl : i = xs.length := by omega
  rw [iterK_s]; simp only [lookup_Table_Places_l0b]
  refine Gx.Wp.jn fun j20 h20 => .ifn (by rw [R.len]; simp) ?_
  rw [h20]
  refine .ifn (by decide) ?_
  rw [hj]
  rw [stop xs.length hp (Nat.le_refl _) hall (fun y hy => by simp at hy)] at A
  exact .of ⟨A, kp⟩
 | succ d ih =>
  intro i out H hd kp hp A hall
  rw [iterK_s]; simp only [lookup_Table_Places_l0b]
  obtain ⟨x, hx⟩ := isome (l := xs) (i := i) (by omega)
  obtain ⟨q, b1, b2, b3, b4⟩ := (R.keeps kp).ld itC_len (by decide) hx
  refine Gx.Wp.jn fun j20 h20 => .ifp (by rw [R.len]; simp; omega) (.bnd b1 (.bnd (b4 0 x.1 rfl) ?_))
  rw [h20, beq_ba]
  by_cases c : x.1 = id
  ·refine .ifp (by simp [c]) (.bnd b1 (.bnd (?_ : ldA 5 ⟨q.block, q.off + 1, none⟩ H = some (plC x.2)) (.bnd (decP5 x.2) (Wp.newE fun H1 e1 k1 n1 g1 => ?_))))
   ·have h6 := b2
    simp only [ldA] at h6 ⊢
    obtain ⟨cc, e, r, fz, g1, g2, g3⟩ := rdL_some h6 (by decide)
    rw [rdL_ok g1 (by omega)]
    congr 1
    have : (cc.drop (q.off + 1)).take 5 = ((cc.drop q.off).take 6).drop 1 := by rw [List.drop_take, List.drop_drop]
    rw [this, ← g3]; rfl
   ·have hlen : (((xs.drop (posId id xs)).take (i - posId id xs)).map (·.2)).length ≤ xs.length := by rw [List.length_map, List.length_take, List.length_drop]; omega
    obtain ⟨s', h', a1, A', c1, d1⟩ := A.push plC_len plC_one x.2 (bytes := 48) (by decide) (by omega) kp.nx
    have eH : H1 = H.new (.cells (plC x.2) 55 true 0) := e1
    rw [eH]
    refine .bnd (rdS_oneW plC_len x.2 55) (.bnd a1 ?_)
    rw [Gx.w1 (by omega)]
    refine ih (i + 1) s' h' (by omega) (Chg.beh kp c1 fun y hy ⟨a, ha, e⟩ => by have := (A.lt a ha).2; omega) (by omega) ?_ (fun t y h1 h2 h3 => ?_)
    ·have e2 : (xs.drop (posId id xs)).take (i + 1 - posId id xs) = (xs.drop (posId id xs)).take (i - posId id xs) ++ [x] := by
      rw [show i + 1 - posId id xs = (i - posId id xs) + 1 by omega, List.take_add_one, List.getElem?_drop, show posId id xs + (i - posId id xs) = i by omega, hx]; rfl
     rw [e2, List.map_append]
     exact A'
    ·by_cases e : t = i
     ·subst e; rw [hx] at h3; cases h3; exact c
     ·exact hall t y h1 (by omega) h3
  ·refine .ifn (by simp [c]) ?_
   rw [hj]
   rw [stop i hp (by omega) hall (fun y hy => by rw [hx] at hy; cases hy; exact c)] at A
   exact .of ⟨A, kp⟩
theorem places_spec (T : Tab base h tb sl F) (hr : RisesT F) {N : Nat} (hm : MaxT F N) (hN : N ≤ 1000000000) (hkN : N + 20 ≤ k) (id : ByteArray) :
  Gx.Wp (lookup_Table_Places k (DD k) (some ⟨tb, 0, none⟩) id h) fun z => AccW 5 plC 55 h.next z.2 z.1 (placesL (F (idx id)) id) ∧ Keeps h z.2 := by
 simp only [lookup_Table_Places]
 have hi := idx_lt id
 have hl := hm _ hi
 have S := T.slot _ hi
 refine .bnd (list_spec k _ tb id h) (.bnd rfl (.bnd (sldL_at T.blk (tabC_get _ hi)) (.call (searchId_spec (by omega) S.row (by omega) id (posId_le id _) (fun i y h1 h2 => cmpB_neg.2 (posId_ahead h1 h2)) (fun i y h1 h2 => fun q => posId_behind (hr _ hi) h1 h2 (cmpB_neg.1 q))) fun r ⟨q1, q2⟩ => Gx.Wp.jn fun j7 h7 => ?_)))
 rw [q1]
 unfold lookup_Table_Places_l0
 obtain ⟨bot, eb⟩ := iterK_of (fun _ _ _ _ _ => none) (lookup_Table_Places_l0b k (DD k) j7) (show ((F (idx id)).length - posId id (F (idx id))) + 1 ≤ k by omega)
 rw [eb]
 have := places_l0 (k := k) (by omega) (S.row.keeps q2) (by omega) (hr _ hi) id j7 h7 bot ((F (idx id)).length - posId id (F (idx id))) (posId id (F (idx id))) ⟨none, 0, 0⟩ r.2 (by have := posId_le id (F (idx id)); omega) (.refl _ _) (Nat.le_refl _) (by rw [Nat.sub_self]; exact ⟨.inl ⟨rfl, rfl⟩, fun a ha => by cases ha⟩) (fun t y a b => by omega)
 refine this.mono fun z ⟨z1, z2⟩ => ⟨⟨z1.st, fun a ha => ⟨(z1.lt a ha).1, Nat.le_trans q2.nx (z1.lt a ha).2⟩⟩, q2.trans z2⟩
def getL (xs : List It) (id : ByteArray) : Pl × Bool := match placesL xs id with
 | [] => (noPl, false)
 | p :: _ => (p, true)
theorem get_spec (T : Tab base h tb sl F) (hr : RisesT F) {N : Nat} (hm : MaxT F N) (hN : N ≤ 1000000000) (hkN : N + 20 ≤ k) (id : ByteArray) :
  Gx.Wp (lookup_Table_Get k (DD k) (some ⟨tb, 0, none⟩) id h) fun z => z.1 = getL (F (idx id)) id ∧ Keeps h z.2 := by
 simp only [lookup_Table_Get]
 refine Wp.newE fun H1 e1 k1 n1 g1 => .call (places_spec (T.keeps k1) hr hm hN hkN id) fun r ⟨A, k2⟩ => ?_
 have g2 := k2.got (by omega) g1
 have n2 := k2.nx
 have hrow : RowW 5 plC r.2 r.1 (placesL (F (idx id)) id) := by
  rcases A.st with ⟨e1, e2⟩ | ⟨b, e1, e2, e3⟩
  ·rw [e1, e2]; exact RowW.nil _ _ _ _ _
  ·have := rowW_blk (w := 5) (enc := plC) plC_len (n := (placesL (F (idx id)) id).length) (cap := (placesL (F (idx id)) id).length) (sp := some 6) e2 (A.lt ⟨b, 0, some 6⟩ (by rw [e1])).1 (Nat.le_refl _)
   rw [List.take_length] at this
   rw [e1]; exact this
 cases hp : placesL (F (idx id)) id with
 | nil =>
  rw [hp] at hrow
  refine .ifp (by rw [hrow.len]; rfl) (Wp.stL g2 rfl rfl rfl (by decide) fun H3 c3 n3 g3 => .bnd (sldA_at g3 rfl) (.bnd (decP5 noPl) (.of ⟨by unfold getL; rw [hp], ?_⟩)))
  exact (k1.trans k2).keepsS c3 fun y hy => by subst hy; omega
 | cons p l =>
  rw [hp] at hrow
  obtain ⟨q, b1, b2, _⟩ := hrow.ld plC_len (by decide) (i := 0) (x := p) rfl
  refine .ifn (by rw [hrow.len]; simp; omega) (.bnd b1 (.bnd b2 (.bnd (decP5 p) (Wp.stL g2 rfl rfl rfl (by decide) fun H3 c3 n3 g3 => .bnd (sldA_at g3 rfl) (.bnd (decP5 p) (.of ⟨by unfold getL; rw [hp], ?_⟩))))))
  exact (k1.trans k2).keepsS c3 fun y hy => by subst hy; omega
end
end Gc
namespace Gc
open Go Gx
theorem dd_drop {R : Type} {Q : R → Prop} {k : Nat} {x : It} {pb : Nat} {p : ByteArray} {h : AHeap} {κ : Value → AHeap → Option R} {C : CallF} (hC : C R 87 = DD k R 87) (hp : h.get pb = some (.cells [.string p] 9 true 0)) (hl : pb < h.next)
  (kt : ∀ h', Keeps h h' → Gx.Wp (κ (.bool (decide (x.2.1 = p))) h') Q) :
  Gx.Wp (callD C (.func (.func 87) ⟨[]⟩ ⟨[.pointer (some ⟨pb, 0, none⟩)]⟩) [.agg ⟨itC x⟩] h κ) Q := by
 show Gx.Wp (C R 87 [.agg ⟨itC x⟩, .pointer (some ⟨pb, 0, none⟩)] h κ) Q
 rw [hC]
 show Gx.Wp ((lookup_Table_Drop_1 k noC x (some ⟨pb, 0, none⟩) h).bind fun r => κ (.bool r.1) r.2) Q
 simp only [lookup_Table_Drop_1]
 refine .call (P := fun r => r.1 = decide (x.2.1 = p) ∧ Keeps h r.2) (Wp.newE fun H1 e1 k1 n1 g1 => ?_) fun r ⟨q1, q2⟩ => by rw [q1]; exact kt _ q2
 have g2 := k1.got hl hp
 exact .bnd (show ldS ⟨h.next, 1, none⟩ H1 = some x.2.1 by simp [ldS, AHeap.rd1, g1, decS]) (.bnd rfl (.bnd (show ldS ⟨pb, 0, none⟩ H1 = some p by simp [ldS, AHeap.rd1, g2, decS]) (.of ⟨beq_ba _ _, k1⟩)))
def inP (p : ByteArray) (y : It) : Bool := decide (y.2.1 = p)
def outP (p : ByteArray) (y : It) : Bool := !inP p y
def noI : List Value := [.string ⟨#[]⟩, .string ⟨#[]⟩, .int .i64 0, .int .i64 0, .int .i64 0, .int .i64 0]
section
variable {k base tb : Nat} {h : AHeap} {s : Slc} {xs : List It} {pb : Nat} {p : ByteArray}
abbrev delV (pb : Nat) : Value := .func (.func 87) ⟨[]⟩ ⟨[.pointer (some ⟨pb, 0, none⟩)]⟩
theorem index_spec (hkx : xs.length + 10 ≤ k) (R : RowW 6 itC h s xs) (hl : xs.length ≤ 1000000000) (hp : h.get pb = some (.cells [.string p] 9 true 0)) (hpl : pb < h.next) :
  Gx.Wp (slices_IndexFunc_api_Item_api_Item k (DD k) s (delV pb) h) fun z => Keeps h z.2 ∧ ((z.1 = -1 ∧ ∀ y ∈ xs, inP p y = false) ∨ ∃ (i : Nat) (x : It), z.1 = (i : Int) ∧ xs[i]? = some x ∧ inP p x = true ∧ ∀ (t : Nat) (y : It), t < i → xs[t]? = some y → inP p y = false) := by
 simp only [slices_IndexFunc_api_Item_api_Item]
 refine Gx.Wp.jn fun j2 h2 => ?_
 unfold slices_IndexFunc_api_Item_api_Item_l0
 obtain ⟨bot, eb⟩ := iterK_of (fun _ _ _ _ _ => none) (slices_IndexFunc_api_Item_api_Item_l0b k (DD k) j2) (show xs.length + 1 ≤ k by omega)
 rw [eb]
 have loop : ∀ (d i : Nat) (H : AHeap), i + d = xs.length → Keeps h H → (∀ t y, t < i → xs[t]? = some y → inP p y = false) → Gx.Wp (iterK bot (d + 1) (slices_IndexFunc_api_Item_api_Item_l0b k (DD k) j2) s (delV pb) (s.len : Int) (i : Int) H) fun z => Keeps h z.2 ∧ ((z.1 = -1 ∧ ∀ y ∈ xs, inP p y = false) ∨ ∃ (i : Nat) (x : It), z.1 = (i : Int) ∧ xs[i]? = some x ∧ inP p x = true ∧ ∀ (t : Nat) (y : It), t < i → xs[t]? = some y → inP p y = false) := fun d => by
  induction d with
  | zero =>
   intro i H hd kp hall
   obtain rfl : i = xs.length := by omega
   rw [iterK_s]; simp only [slices_IndexFunc_api_Item_api_Item_l0b]
   refine .ifn (by rw [R.len]; simp) ?_
   rw [h2]
   refine .of ⟨kp, .inl ⟨rfl, fun y hy => ?_⟩⟩
   obtain ⟨t, ht, e⟩ := List.getElem_of_mem hy
   exact hall t y ht (by rw [← e]; exact List.getElem?_eq_getElem ht)
  | succ d ih =>
   intro i H hd kp hall
   rw [iterK_s]; simp only [slices_IndexFunc_api_Item_api_Item_l0b]
   obtain ⟨x, hx⟩ := isome (l := xs) (i := i) (by omega)
   obtain ⟨q, b1, b2, _⟩ := (R.keeps kp).ld itC_len (by decide) hx
   refine .ifp (by rw [R.len]; simp; omega) (.bnd b1 (.bnd b2 (.bnd (decI6 x) (dd_drop (x := x) rfl (kp.got hpl hp) (Nat.lt_of_lt_of_le hpl kp.nx) fun h' k' => .bnd rfl ?_))))
   by_cases c : x.2.1 = p
   ·exact .ifp (by simp [c]) (.of ⟨kp.trans k', .inr ⟨i, x, rfl, hx, by simp [inP, c], hall⟩⟩)
   ·refine .ifn (by simp [c]) ?_
    rw [Gx.w1 (by omega)]
    refine ih (i + 1) h' (by omega) (kp.trans k') fun t y ht hy => ?_
    by_cases e : t = i
    ·subst e; rw [hx] at hy; cases hy; simp [inP, c]
    ·exact hall t y (by omega) hy
 exact loop xs.length 0 h (by omega) (.refl _ _) (fun t y ht => by omega)
theorem flat_set (ys : List It) (R : List Value) {i : Nat} (x : It) (hi : i < ys.length) : splice (ys.flatMap itC ++ R) (i * 6) (itC x) = (ys.set i x).flatMap itC ++ R := by
 have e : ys.set i x = ys.take i ++ x :: ys.drop (i + 1) := by rw [List.set_eq_take_append_cons_drop, if_pos hi]
 unfold splice
 rw [itC_len, e, List.take_append_of_le_length (by rw [flat_len]; omega), flat_take, show i * 6 + 6 = (i + 1) * 6 by omega]
 rw [List.drop_append_of_le_length (by rw [flat_len]; omega), flat_drop]
 simp
theorem delete_spec (hkx : xs.length + 10 ≤ k) (A : SlotR base h tb s xs) (hl : xs.length ≤ 1000000000) (hp : h.get pb = some (.cells [.string p] 9 true 0)) (hpl : pb < h.next) (hps : ∀ a, s.a = some a → a.block ≠ pb) :
  Gx.Wp (slices_DeleteFunc_api_Item_api_Item k (DD k) s (delV pb) h) fun z => SlotR base z.2 tb z.1 (xs.filter (outP p)) ∧ Chg (ofS s) h z.2 ∧ ∀ a, z.1.a = some a → ∃ b, s.a = some b ∧ b.block = a.block := by
 simp only [slices_DeleteFunc_api_Item_api_Item]
 refine .call (index_spec hkx A.row hl hp hpl) fun r ⟨k1, q⟩ => ?_
 rcases q with ⟨e1, hall⟩ | ⟨i0, x0, e1, hx0, hin0, hall⟩
 ·refine .ifp (by simp [e1]) (.of ⟨?_, k1.keeps, fun a ha => ⟨a, ha, rfl⟩⟩)
  have : xs.filter (outP p) = xs := List.filter_eq_self.2 fun y hy => by simp [outP, hall y hy]
  rw [this]; exact A.keeps k1
 ·refine .ifn (by simp [e1]) (Gx.Wp.jn fun j5 h5 => ?_)
  have hlt0 : i0 < xs.length := (List.getElem?_eq_some_iff.1 hx0).1
  rcases A.keeps k1 with ⟨_, rfl⟩ | ⟨b, sp, cap, RR, B⟩
  ·simp at hlt0
  have hs := B.s
  have hspok : spOk sp 6 = true := by rcases B.sp with ⟨rfl, _⟩ | ⟨rfl, _⟩ <;> rfl
  have hne : b ≠ pb := hps ⟨b, 0, sp⟩ (by rw [hs])
  have hofb : ∀ y, y = b → ofS s y := fun y e => ⟨⟨b, 0, sp⟩, by rw [hs], e⟩
  have fin : ∀ (H : AHeap) (ys : List It), Chg (ofS s) h H → H.get b = some (.cells (ys.flatMap itC ++ RR) 57 true 0) → ys.length = xs.length → ∀ i, i ≤ xs.length → ys.take i = xs.filter (outP p) →
    Gx.Wp (j5 s (i : Int) H) fun z => SlotR base z.2 tb z.1 (xs.filter (outP p)) ∧ Chg (ofS s) h z.2 ∧ ∀ a, z.1.a = some a → ∃ b, s.a = some b ∧ b.block = a.block := by
   intro H ys c g hyl i hi ht
   rw [h5]
   have hfl : (xs.filter (outP p)).length = i := by rw [← ht, List.length_take]; omega
   have e6 : ∃ t : Slc, Gx.subL 6 s (some (i : Int)) none none = some t ∧ t.len = xs.length - i ∧ ∃ o, t.a = some ⟨b, o, sp⟩ ∧ (i < xs.length → o = i * 6) := by
    rw [hs]
    simp only [Gx.subL, Option.getD_none, Option.getD_some, hspok, if_true]
    have hle := B.le
    refine ⟨⟨some ⟨b, if (cap : Int) = i then 0 else 0 + i * 6, sp⟩, xs.length - i, cap - i⟩, ?_, rfl, _, rfl, fun hlt => ?_⟩
    ·rw [if_pos (by omega)]
     have a1 : ((xs.length : Int) - i).toNat = xs.length - i := by omega
     have a2 : ((cap : Int) - i).toNat = cap - i := by omega
     rw [a1, a2]; simp
    ·rw [if_neg (by omega)]; simp
   obtain ⟨t, et, tl, o, ta, t9⟩ := e6
   have e8 : Gx.subL 6 s none (some (i : Int)) none = some ⟨some ⟨b, 0, sp⟩, i, cap⟩ := by rw [hs]; exact subL_hi hspok (by have := B.le; omega)
   refine .bnd et ?_
   obtain ⟨H2, e7, g7, c7, n7⟩ : ∃ H2, clrL noI t H = some H2 ∧ H2.get b = some (.cells ((xs.filter (outP p)).flatMap itC ++ (zerosL (xs.length - i) noI ++ RR)) 57 true 0) ∧ Chg (ofS s) H H2 ∧ H2.next = H.next := by
    have hzl : (zerosL (xs.length - i) noI).length = (xs.length - i) * 6 := by rw [zerosL_eq]; simp [List.length_flatten, noI]
    by_cases hlt : i < xs.length
    ·have ho := t9 hlt
     have hne0 : zerosL (xs.length - i) noI ≠ [] := fun e => by rw [e] at hzl; simp at hzl; omega
     have ho1 : allOne (zerosL (xs.length - i) noI) = true := by
      rw [allOne_mem]
      intro v hv
      rw [zerosL_eq] at hv
      obtain ⟨l, hl1, hl2⟩ := List.mem_flatten.1 hv
      rw [List.eq_of_mem_replicate hl1] at hl2
      exact allOne_mem.1 (show allOne noI = true from rfl) v hl2
     have hw := wrL_ok g (o := i * 6) (vs := zerosL (xs.length - i) noI) (by rw [List.length_append, flat_len, hzl]; omega) ho1 hne0
     refine ⟨_, by unfold clrL; rw [ta]; simp only [tl, ho]; exact hw, ?_, Chg.set (.inr (hofb b rfl)), rfl⟩
     simp only [AHeap.get_set, if_true]
     congr 2
     unfold splice
     rw [List.take_append_of_le_length (by rw [flat_len]; omega), flat_take, ht, hzl, show i * 6 + (xs.length - i) * 6 = (ys.flatMap itC).length by rw [flat_len]; omega, List.drop_left, List.append_assoc]
    ·have hi' : i = xs.length := by omega
     have e0 : zerosL (xs.length - i) noI = [] := by rw [zerosL_eq, hi']; simp
     refine ⟨H, by unfold clrL; rw [ta, tl]; rw [e0]; rfl, ?_, .refl _ _, rfl⟩
     rw [e0, g, ← ht, List.take_of_length_le (by omega)]; rfl
   refine .bnd (show clrL [.string ⟨#[]⟩, .string ⟨#[]⟩, .int .i64 0, .int .i64 0, .int .i64 0, .int .i64 0] t H = some H2 from e7) (.bnd e8 (.of ⟨.inr ⟨b, sp, cap, zerosL (xs.length - i) noI ++ RR, by rw [hfl], g7, ?_, B.ge, ?_, B.ne, by rw [hfl]; have := B.le; omega, ?_, B.sp⟩, c.trans c7, fun a ha => by cases ha; exact ⟨⟨b, 0, sp⟩, by rw [hs], rfl⟩⟩))
   ·rw [allOne_mem]
    intro v hv
    rcases List.mem_append.1 hv with hv | hv
    ·rw [zerosL_eq] at hv
     obtain ⟨l, hl1, hl2⟩ := List.mem_flatten.1 hv
     rw [List.eq_of_mem_replicate hl1] at hl2
     exact allOne_mem.1 (show allOne noI = true from rfl) v hl2
    ·exact allOne_mem.1 B.one v hv
   ·have hb0 : b < h.next := ((A.own ⟨b, 0, sp⟩ (by rw [hs]))).2.1
    have := c.nx
    show b < H2.next
    rw [n7]; omega
   ·have hzl : (zerosL (xs.length - i) noI).length = (xs.length - i) * 6 := by rw [zerosL_eq]; simp [List.length_flatten, noI]
    have := B.room
    rw [hfl, List.length_append, hzl]; omega
  rw [e1, Gx.w1 (by omega)]
  unfold slices_DeleteFunc_api_Item_api_Item_l0
  obtain ⟨bot, eb⟩ := iterK_of (fun _ _ _ _ _ => none) (slices_DeleteFunc_api_Item_api_Item_l0b k (DD k) j5) (show (xs.length - (i0 + 1)) + 1 ≤ k by omega)
  rw [eb]
  have loop : ∀ (d i j : Nat) (H : AHeap) (ys : List It), j + d = xs.length → i < j → Chg (ofS s) h H → H.get b = some (.cells (ys.flatMap itC ++ RR) 57 true 0) → ys.length = xs.length → ys.take i = (xs.take j).filter (outP p) → ys.drop j = xs.drop j → H.get pb = some (.cells [.string p] 9 true 0) →
    Gx.Wp (iterK bot (d + 1) (slices_DeleteFunc_api_Item_api_Item_l0b k (DD k) j5) s (delV pb) (i : Int) (j : Int) H) fun z => SlotR base z.2 tb z.1 (xs.filter (outP p)) ∧ Chg (ofS s) h z.2 ∧ ∀ a, z.1.a = some a → ∃ b, s.a = some b ∧ b.block = a.block := fun d => by
   induction d with
   | zero =>
    intro i j H ys hd hij c g hyl ht _ _
    obtain rfl : j = xs.length := by omega
    rw [List.take_length] at ht
    rw [iterK_s]; simp only [slices_DeleteFunc_api_Item_api_Item_l0b]
    exact .ifn (by rw [hs]; simp) (fin H ys c g hyl i (by omega) ht)
   | succ d ih =>
    intro i j H ys hd hij c g hyl ht hdr gp
    rw [iterK_s]; simp only [slices_DeleteFunc_api_Item_api_Item_l0b]
    obtain ⟨x, hx⟩ := isome (l := xs) (i := j) (by omega)
    have hyx : ys[j]? = some x := by
     have := congrArg (·[0]?) hdr
     simp only [List.getElem?_drop, Nat.add_zero] at this
     rw [this]; exact hx
    have nH := c.nx
    have hb0 : b < h.next := ((A.own ⟨b, 0, sp⟩ (by rw [hs]))).2.1
    have RH : RowW 6 itC H s ys := by
     rw [hs]
     exact ⟨hyl.symm, fun t y hy => ⟨_, _, _, _, _, rfl, by show b < H.next; omega, g, fun m v hv => by rw [Nat.zero_add]; exact flat_get hy m v hv⟩⟩
    obtain ⟨q, b1, b2, _⟩ := RH.ld itC_len (by decide) hyx
    have hbn : ¬ b = H.next := by omega
    refine .ifp (by rw [hs]; simp; omega) (Gx.Wp.jn fun j20 h20 => .bnd b1 (.bnd b2 (.bnd (decI6 x) (Wp.newE fun H1 e3 k3 n3 g3 => Wp.stL g3 rfl rfl rfl (by decide) fun H2 c4 n4 g4 => ?_))))
    have k4 : Keeps H H2 := k3.keepsS c4 fun y hy => by subst hy; omega
    have gx : H2.get H.next = some (.cells (itC x) 57 true 0) := g4
    have hplH : pb < H.next := by omega
    refine .bnd (sldA_at gx rfl) (.bnd (decI6 x) (dd_drop (x := x) rfl (k4.got hplH gp) (by have := k4.nx; omega) fun H3 k5 => .bnd rfl ?_))
    have k45 : Keeps H H3 := k4.trans k5
    have c5 : Chg (ofS s) h H3 := Chg.beh c k45 fun y _ f => f.elim
    have g5 := k45.got (by omega) g
    have gp5 := k45.got hplH gp
    have nx : xs.take (j + 1) = xs.take j ++ [x] := by rw [List.take_add_one, hx]; rfl
    have hdr' : ∀ {zs : List It}, zs.drop j = xs.drop j → zs.drop (j + 1) = xs.drop (j + 1) := fun {zs} e => by
     rw [← List.drop_drop, e, List.drop_drop]
    by_cases cc : x.2.1 = p
    ·refine .ifn (by simp [cc]) ?_
     rw [h20]
     dsimp only
     rw [Gx.w1 (by omega)]
     exact ih i (j + 1) H3 ys (by omega) (by omega) c5 g5 hyl (by rw [nx, List.filter_append, ← ht]; simp [outP, inP, cc]) (hdr' hdr) gp5
    ·have gx5 := k5.got (by have := k4.nx; omega) gx
     refine .ifp (by simp [cc]) (.bnd (sldA_at gx5 rfl) (.bnd (decI6 x) ?_))
     have eq : Gx.idxL 6 s (i : Int) = some ⟨b, i * 6, none⟩ := by
      rw [hs]
      simp only [Gx.idxL]
      rw [if_pos (by omega)]
      simp
     have hw : stL 6 ⟨b, i * 6, none⟩ (itC x) H3 = some (H3.set b (.cells ((ys.set i x).flatMap itC ++ RR) 57 true 0)) := by
      unfold stL
      rw [show Nat.beq (itC x).length 6 = true from rfl, cond_true, ← flat_set ys RR x (by omega)]
      exact wrL_ok (o := i * 6) g5 (by rw [List.length_append, flat_len, itC_len]; omega) rfl (by simp [itC])
     refine .bnd eq (.bnd hw ?_)
     rw [h20]
     dsimp only
     rw [Gx.w1 (by omega), Gx.w1 (by omega)]
     refine ih (i + 1) (j + 1) _ (ys.set i x) (by omega) (by omega) (c5.trans (Chg.set (.inr (hofb b rfl)))) (by simp) (by simp [hyl]) ?_ (hdr' ?_) ?_
     ·rw [nx, List.filter_append, ← ht]
      have e1 : (ys.set i x).take (i + 1) = ys.take i ++ [x] := by
       rw [List.take_add_one, List.take_set_of_le (Nat.le_refl _), List.getElem?_set_self (by omega)]; rfl
      rw [e1]; simp [outP, inP, cc]
     ·rw [List.drop_set_of_lt (by omega)]; exact hdr
     ·simp only [AHeap.get_set]
      rw [if_neg (fun e => hne e.symm)]; exact gp5
  have hpre : (xs.take (i0 + 1)).filter (outP p) = xs.take i0 := by
   rw [List.take_add_one, hx0, List.filter_append]
   have e1 : (xs.take i0).filter (outP p) = xs.take i0 := List.filter_eq_self.2 fun y hy => by
    obtain ⟨t, ht, e⟩ := List.getElem_of_mem hy
    have h6 : (xs.take i0)[t]? = some y := by rw [← e]; exact List.getElem?_eq_getElem ht
    rw [List.getElem?_take] at h6
    split at h6
    ·rename_i hlt; simp [outP, hall t y hlt h6]
    ·cases h6
   rw [e1]; simp [outP, hin0]
  exact loop (xs.length - (i0 + 1)) i0 (i0 + 1) r.2 xs (by omega) (by omega) k1.keeps B.blk rfl hpre.symm rfl (k1.got hpl hp)
end
end Gc
namespace Gc
open Go Gx
def dropF (F : Nat → List It) (p : ByteArray) : Nat → List It := fun i => (F i).filter (outP p)
def cntTo (F : Nat → List It) (n : Nat) : Nat := ((List.range n).map fun i => (F i).length).sum
theorem cntTo_s (F : Nat → List It) (n : Nat) : cntTo F (n + 1) = cntTo F n + (F n).length := by simp [cntTo, List.range_succ]
theorem filter_rises {xs : List It} (hr : Rises xs) (q : It → Bool) : Rises (xs.filter q) := List.Pairwise.sublist List.filter_sublist hr
theorem dropF_rises {F : Nat → List It} (hr : RisesT F) (p : ByteArray) : RisesT (dropF F p) := fun i hi => filter_rises (hr i hi) _
theorem dropF_max {F : Nat → List It} {n : Nat} (hm : MaxT F n) (p : ByteArray) : MaxT (dropF F p) n := fun i hi => Nat.le_trans (List.length_filter_le _ _) (hm i hi)
theorem cntTo_le {F : Nat → List It} {n : Nat} (hm : MaxT F n) : ∀ i, i ≤ 256 → cntTo F i ≤ i * n
 | 0, _ => by simp [cntTo]
 | i + 1, h => by
  have := cntTo_le hm i (by omega)
  have := hm i (by omega)
  rw [cntTo_s, Nat.succ_mul]; omega
theorem drop_cnt (F : Nat → List It) (p : ByteArray) : ∀ i, cntTo (dropF F p) i ≤ cntTo F i
 | 0 => Nat.le_refl _
 | i + 1 => by
  rw [cntTo_s, cntTo_s]
  have := drop_cnt F p i
  have : (dropF F p i).length ≤ (F i).length := List.length_filter_le _ _
  omega
section
variable {k base tb : Nat} {h : AHeap} {sl : Nat → Slc} {F : Nat → List It}
theorem decA_tab (sl : Nat → Slc) : decA 256 (.agg ⟨tabC sl⟩) = some (tabC sl) := by
 show (bif Nat.beq (tabC sl).length 256 then some (tabC sl) else none) = _
 rw [tabC_len]; rfl
theorem tab_all (T : Tab base h tb sl F) : ldA 256 ⟨tb, 0 + 0, none⟩ h = some (tabC sl) := sldA_at T.blk (tabC_len sl)
theorem drop_spec (hk : 300 ≤ k) (T : Tab base h tb sl F) {N : Nat} (hm : MaxT F N) (hN : N ≤ 1000000000) (hkN : N + 20 ≤ k) (p : ByteArray) :
  Gx.Wp (lookup_Table_Drop k (DD k) (some ⟨tb, 0, none⟩) p h) fun z => z.1 = ((cntTo F 256 - cntTo (dropF F p) 256 : Nat) : Int) ∧ ∃ sl', Tab base z.2 tb sl' (dropF F p) ∧ Chg (TOwn tb sl) h z.2 ∧ ∀ y, TOwn tb sl' y → h.next ≤ y ∨ TOwn tb sl y := by
 simp only [lookup_Table_Drop]
 refine Wp.newE fun H1 e1 k1 n1 g1 => Gx.Wp.jn fun j4 h4 => .bnd rfl (.bnd (tab_all (T.keeps k1)) (.bnd (decA_tab sl) ?_))
 unfold lookup_Table_Drop_l0
 obtain ⟨bot, eb⟩ := iterK_of (fun _ _ _ _ _ _ => none) (lookup_Table_Drop_l0b k (DD k) j4) (show 256 + 1 ≤ k by omega)
 rw [eb]
 have loop : ∀ (d i : Nat) (H : AHeap) (sl' : Nat → Slc), i + d = 256 → Chg (TOwn tb sl) H1 H → (∀ j, i ≤ j → sl' j = sl j) → Tab base H tb sl' (fun j => if j < i then dropF F p j else F j) → (∀ y, TOwn tb sl' y → TOwn tb sl y) →
   Gx.Wp (iterK bot (d + 1) (lookup_Table_Drop_l0b k (DD k) j4) (some ⟨tb, 0, none⟩) (some ⟨h.next, 0, none⟩) ((cntTo F i - cntTo (dropF F p) i : Nat) : Int) (tabC sl) (i : Int) H) fun z => z.1 = ((cntTo F 256 - cntTo (dropF F p) 256 : Nat) : Int) ∧ ∃ sl', Tab base z.2 tb sl' (dropF F p) ∧ Chg (TOwn tb sl) h z.2 ∧ ∀ y, TOwn tb sl' y → h.next ≤ y ∨ TOwn tb sl y := fun d => by
  induction d with
  | zero =>
   intro i H sl' hd c hsl T' ho
   obtain rfl : i = 256 := by omega
   rw [iterK_s]; simp only [lookup_Table_Drop_l0b]
   refine .ifn (by simp) ?_
   rw [h4]
   exact .of ⟨rfl, sl', T'.ext fun j hj => by rw [if_pos hj], Chg.trans k1.keeps c, fun y hy => .inr (ho y hy)⟩
  | succ d ih =>
   intro i H sl' hd c hsl T' ho
   rw [iterK_s]; simp only [lookup_Table_Drop_l0b]
   have hi : i < 256 := by omega
   have nH := c.nx
   have S := T'.slot i hi
   rw [hsl i (Nat.le_refl _)] at S
   simp only [Nat.lt_irrefl, if_false] at S
   have hlN := hm i hi
   have hplt : h.next < H.next := by omega
   have gp : H.get h.next = some (.cells [.string p] 9 true 0) := c.got (by omega) (fun q => by have := (T.own q).2; omega) g1
   have ci := cntTo_le hm i (by omega)
   have di := drop_cnt F p i
   refine .ifp (by simp; omega) (.ifp (by omega) (.bnd (show (tabC sl)[(i : Int).toNat * 1]? = some (.slice (sl i).a (sl i).len (sl i).cap) by rw [Int.toNat_natCast, Nat.mul_one, tabC_get _ hi]) (.bnd (show decL (.slice (sl i).a (sl i).len (sl i).cap) = some (sl i) from rfl) ?_)))
   refine .call (delete_spec (by omega) S (by omega) gp hplt (fun a ha => by have := ((T.slot i hi).own a ha).2.1; omega)) fun r ⟨A, c2, d2⟩ => ?_
   have eix : Gx.idxA 256 1 (⟨tb, 0 + 0, none⟩ : Addr) (i : Int) = some ⟨tb, i, none⟩ := by rw [sidxA0 hi]; simp
   rw [← hsl i (Nat.le_refl _)] at c2 d2
   obtain ⟨h3, a3, T3, c3, o3⟩ := T'.slotT hi c2 A (fun a ha => .inr (d2 a ha))
   have g3 := sldL_at (sp := none) T3.blk (tabC_get _ hi)
   refine .bnd rfl (.bnd eix (.bnd a3 (.bnd rfl (.bnd eix (.bnd g3 ?_)))))
   have e5 : upd sl' i r.1 i = r.1 := by simp [upd]
   have e6 : r.1.len = (dropF F p i).length := A.len
   have e7 : (sl i).len = (F i).length := (T.slot i hi).len
   have e8 : (dropF F p i).length ≤ (F i).length := List.length_filter_le _ _
   simp only [e5]
   have hbig : i * N ≤ 256 * 1000000000 := Nat.mul_le_mul (by omega) hN
   have ew : IntKind.wrap .i64 (((sl i).len : Int) - (r.1.len : Int)) = (((F i).length - (dropF F p i).length : Nat) : Int) := by rw [e6, e7, Gx.w64 _ (by omega)]; omega
   rw [ew, show IntKind.wrap .i64 (((cntTo F i - cntTo (dropF F p) i : Nat) : Int) + (((F i).length - (dropF F p i).length : Nat) : Int)) = ((cntTo F (i + 1) - cntTo (dropF F p) (i + 1) : Nat) : Int) by rw [Gx.w64 _ (by omega), cntTo_s, cntTo_s]; omega]
   refine .bnd (decA_tab sl) ?_
   rw [Gx.w1 (by omega)]
   refine ih (i + 1) h3 (upd sl' i r.1) (by omega) (Chg.trans c (c3.wk fun y _ z => ho y z)) (fun j hj => ?_) (T3.ext fun j hj => ?_) fun y hy => ?_
   ·unfold upd; rw [if_neg (by omega)]; exact hsl j (by omega)
   ·unfold upd
    by_cases e : j = i
    ·subst e; rw [if_pos rfl, if_pos (by omega)]; rfl
    ·rw [if_neg e]
     dsimp only
     by_cases e2 : j < i
     ·rw [if_pos e2, if_pos (by omega)]
     ·rw [if_neg e2, if_neg (by omega)]
   ·rcases hy with rfl | ⟨j, hj, a, ha, rfl⟩
    ·exact .inl rfl
    ·by_cases e : j = i
     ·rw [show upd sl' i r.1 j = r.1 by simp [upd, e]] at ha
      obtain ⟨b, hb, e2⟩ := d2 a ha
      exact ho _ (.inr ⟨i, hi, b, hb, e2⟩)
     ·rw [show upd sl' i r.1 j = sl' j by simp [upd, e]] at ha
      exact ho _ (.inr ⟨j, hj, a, ha, rfl⟩)
 have := loop 256 0 H1 sl (by omega) (.refl _ _) (fun _ _ => rfl) ((T.keeps k1).ext fun j _ => by rw [if_neg (by omega)]) (fun _ h => h)
 exact this
end
def amg (x n : Int) : Int := Int.tmod (Int.tmod x n + n) n
theorem amg_lt (x : Int) {n : Int} (hn : 0 < n) : 0 ≤ amg x n ∧ amg x n < n := by
 unfold amg
 have h1 : Int.tmod x n < n := Int.tmod_lt_of_pos x hn
 have h2 : -n < Int.tmod x n := by
  have := Int.lt_tmod_of_pos x hn
  omega
 exact ⟨Int.tmod_nonneg _ (by omega), Int.tmod_lt_of_pos _ hn⟩
theorem among_spec (k : Nat) (D : CallF) (x : Int) {n : Int} (hn : 0 < n) (hn2 : n < 1000000000) (h : AHeap) : book_Among k D x n h = some (amg x n, h) := by
 simp only [book_Among]
 rw [if_neg (by omega), if_neg (by omega)]
 have h1 : Int.tmod x n < n := Int.tmod_lt_of_pos x hn
 have h2 : -n < Int.tmod x n := by
  have := Int.lt_tmod_of_pos x hn
  omega
 rw [Gx.w64 _ (by omega)]
 rfl
def rep32 (b : Nat) : ByteArray := repB ⟨⟨[UInt8.ofNat b]⟩⟩ 32
def itemV (id pack off : Int) : It := (rep32 (amg id 20 * 13).toNat, rep32 (97 + amg pack 5).toNat, 1, amg off 100, 5, 3)
theorem itemV_ok (id pack off : Int) : okI (itemV id pack off) := by
 have := amg_lt off (n := 100) (by decide)
 refine ⟨rfl, rfl, .inl rfl, ⟨this.1, ?_⟩, (by show (1 : Int) ≤ 5 ∧ (5 : Int) ≤ 65536; decide), (by show (0 : Int) ≤ 3 ∧ (3 : Int) ≤ 65536; decide)⟩
 show amg off 100 ≤ 65536
 omega
theorem item_spec (k : Nat) (D : CallF) (id pack off : Int) (h : AHeap) : Gx.Wp (law15_item k D id pack off h) fun z => z.1 = itemV id pack off ∧ Keeps h z.2 := by
 simp only [law15_item]
 have b1 := amg_lt pack (n := 5) (by decide)
 have b2 := amg_lt id (n := 20) (by decide)
 have one : ∀ {H : AHeap} {b : Nat} {v : Int} {e : TypeId}, H.get b = some (.cells [.int .u8 v] e true 0) → bytesOf H ⟨some ⟨b, 0, some 0⟩, 1, 1⟩ = some ⟨⟨[UInt8.ofNat v.toNat]⟩⟩ := fun {H b v e} hg => by
  simp only [bytesOf]
  rw [rdL_ok hg (by simp)]
  rfl
 refine Wp.newE fun H1 e1 k1 n1 g1 => .bnd (among_spec k D pack (by decide) (by decide) H1) (Wp.newE fun H2 e2 k2 n2 g2 => .bnd (one g2) (.bnd (among_spec k D id (by decide) (by decide) H2) (Wp.newE fun H3 e3 k3 n3 g3 => .bnd (one g3) ?_)))
 have ew1 : IntKind.wrap .u8 (IntKind.wrap .i64 (97 + amg pack 5)) = 97 + amg pack 5 := by rw [Gx.w64 _ (by omega), Gx.w8 _ (by omega)]
 have ew2 : IntKind.wrap .u8 (IntKind.wrap .i64 (amg id 20 * 13)) = amg id 20 * 13 := by rw [Gx.w64 _ (by omega), Gx.w8 _ (by omega)]
 simp only [ew1, ew2]
 have rp : ∀ b : Nat, repeatA ⟨⟨[UInt8.ofNat b]⟩⟩ 32 = some (rep32 b) := fun b => rfl
 have k23 : Keeps H1 H3 := Chg.trans (h1 := H2) k2 k3
 have g4 : H3.get h.next = some (.cells noI 57 true 0) := Keeps.got k23 (by omega) g1
 refine .bnd (rp _) (.bnd (rp _) (.bnd (among_spec k D off (by decide) (by decide) H3) (Wp.stL g4 rfl rfl rfl (by decide) fun H4 c4 n4 g5 => .bnd (sldA_at g5 rfl) (.bnd (decI6 (itemV id pack off)) (.of ⟨rfl, ?_⟩)))))
 exact ((k1.trans k2).trans k3).keepsS c4 fun y hy => by subst hy; omega
end Gc
namespace Gc
open Go Gx
def Tru {R : Type} (x : Option (R × AHeap)) (v : R) : Prop := ∃ h', x = some (v, h')
theorem Tru.wp {R : Type} {v : R} {x : Option (R × AHeap)} (h : Gx.Wp x fun q => q.1 = v) : Tru x v := by
 obtain ⟨⟨a, b⟩, e, q⟩ := h
 simp only at q
 subst q
 exact ⟨b, e⟩
def itA : It := itemV 1 2 5
def itB : It := itemV 1 1 9
theorem itAB : lessI itB itA = true := by decide
theorem itAB2 : lessI itA itB = false := by decide
theorem putAB : putI itB (putI itA []) = [itB, itA] := by
 have e1 : putI itA [] = [itA] := by unfold putI; rw [if_neg (by simp)]; rfl
 rw [e1]
 unfold putI
 have hne : ¬ itB ∈ [itA] := fun h => by
  have : itB = itA := by simpa using h
  have h2 := itAB
  rw [this, lessI_irrefl] at h2; cases h2
 rw [if_neg hne]
 simp [itAB2]
theorem addAB : addL (fun _ => []) [itA, itB] (idx itA.1) = [itB, itA] := by
 show addF (addF (fun _ => []) itA) itB (idx itA.1) = _
 unfold addF upd
 rw [show idx itB.1 = idx itA.1 from rfl, if_pos rfl, if_pos rfl]
 exact putAB
theorem addAB0 {i : Nat} (h : i ≠ idx itA.1) : addL (fun _ => []) [itA, itB] i = [] := by
 show addF (addF (fun _ => []) itA) itB i = _
 unfold addF upd
 rw [show idx itB.1 = idx itA.1 from rfl, if_neg h, if_neg h]
theorem outA : outP itB.2.1 itA = true := by decide
theorem outB : outP itB.2.1 itB = false := by decide
theorem cntOne (F : Nat → List It) (i0 : Nat) (h : ∀ i, i ≠ i0 → F i = []) : ∀ n, cntTo F n = if i0 < n then (F i0).length else 0
 | 0 => by simp [cntTo]
 | n + 1 => by
  rw [cntTo_s, cntOne F i0 h n]
  by_cases c : n = i0
  ·subst c; rw [if_neg (Nat.lt_irrefl _), if_pos (by omega)]; omega
  ·rw [h n c]
   by_cases d : i0 < n
   ·rw [if_pos d, if_pos (by omega)]; rfl
   ·rw [if_neg d, if_neg (by omega)]; rfl
section
variable {k : Nat}
theorem works_spec (hk : 1000 ≤ k) (h : AHeap) : Gx.Wp (law15_works k (DD k) h) fun z => z.1 = true ∧ Keeps h z.2 := by
 simp only [law15_works]
 obtain ⟨h1, a1, k1, T1⟩ := new_spec k (DD k) h
 refine .bnd a1 (Gx.Wp.jn fun j5 h5 => .ifn (by simp) ?_)
 refine .call (item_spec k (DD k) 1 2 5 h1) fun r18 ⟨q18, k18⟩ => .call (item_spec k (DD k) 1 1 9 r18.2) fun r19 ⟨q19, k19⟩ => ?_
 rw [q18, q19]
 refine Wp.newE fun H e0 k0 n0 g0 => ?_
 have g0' : H.get r19.2.next = some (.cells ([itA, itB].flatMap itC) 57 true 0) := g0
 have R : RowW 6 itC H ⟨some ⟨r19.2.next, 0, some 0⟩, 2, 2⟩ [itA, itB] := by
  have := rowW_blk (w := 6) (enc := itC) itC_len (n := 2) (cap := 2) (sp := some 0) (ys := [itA, itB]) g0' (by omega) (Nat.le_refl _)
  exact this
 have kH : Keeps h1 H := (k18.trans k19).trans k0
 have nH := kH.nx
 have n1 := k1.nx
 have hr0 : RisesT fun _ => [] := fun i _ => List.Pairwise.nil
 have hm0 : MaxT (fun _ => []) 0 := fun i _ => Nat.le_refl _
 have n19 : h1.next ≤ r19.2.next := (k18.trans k19).nx
 have own1 : ∀ y, TOwn h.next (fun _ => (⟨none, 0, 0⟩ : Slc)) y → y < h1.next := fun y hy => (T1.own hy).2
 refine .call (add_spec (by omega) R (N := 0) (by simp) (by simp; omega) (fun a ha z => by cases ha; have := own1 _ z; simp only at this; omega) (by omega) (T1.keeps kH) hr0 hm0 (fun x hx => ?_)) fun r21 ⟨q21, sl2, T2, c2, o2⟩ => ?_
 ·simp only [List.mem_cons, List.not_mem_nil, or_false] at hx
  rcases hx with rfl | rfl
  ·exact itemV_ok _ _ _
  ·exact itemV_ok _ _ _
 have hr2 : RisesT (addL (fun _ => []) [itA, itB]) := addL_rises hr0
 have hm2 : MaxT (addL (fun _ => []) [itA, itB]) 2 := by have := addL_max (xs := [itA, itB]) hm0; simpa using this
 rw [q21, h5]
 refine .ifn (by decide) (.call (item_spec k (DD k) 1 0 0 r21.2) fun r6 ⟨q6, k6⟩ => ?_)
 have hid : r6.1.1 = itA.1 := by rw [q6]; rfl
 rw [hid]
 have T3 := T2.keeps k6
 refine .call (get_spec T3 hr2 hm2 (by decide) (by omega) itA.1) fun r7 ⟨q7, k7⟩ => ?_
 have hg1 : getL (addL (fun _ => []) [itA, itB] (idx itA.1)) itA.1 = (itB.2, true) := by rw [addAB]; rfl
 rw [hg1] at q7
 rw [q7]
 refine Wp.newE fun H8 e8 k8 n8 g8 => Wp.stL g8 rfl rfl rfl (by decide) fun H9 c9 n9 g9 => ?_
 have k9 : Keeps r7.2 H9 := k8.keepsS c9 fun y hy => by subst hy; omega
 have gB : H9.get r7.2.next = some (.cells (plC itB.2) 55 true 0) := g9
 have T9 := (T3.keeps k7).keeps k9
 refine .bnd (show ldS ⟨r7.2.next, 0, none⟩ H9 = some itB.2.1 by simp [ldS, AHeap.rd1, gB, plC, decS]) (.call (drop_spec (by omega) T9 hm2 (by decide) (by omega) itB.2.1) fun r11 ⟨q11, sl3, T11, c11, o11⟩ => ?_)
 have n7 := k7.nx
 have n6 := k6.nx
 have gB2 : r11.2.get r7.2.next = some (.cells (plC itB.2) 55 true 0) := c11.got (by omega) (fun z => by have := ((T3.keeps k7).own z).2; omega) gB
 have n11 := c11.nx
 refine .call (item_spec k (DD k) 1 0 0 r11.2) fun r12 ⟨q12, k12⟩ => ?_
 have hid2 : r12.1.1 = itA.1 := by rw [q12]; rfl
 rw [hid2]
 have hr3 := dropF_rises hr2 itB.2.1
 have hm3 := dropF_max hm2 itB.2.1
 refine .call (get_spec (T11.keeps k12) hr3 hm3 (by decide) (by omega) itA.1) fun r13 ⟨q13, k13⟩ => ?_
 have hg2 : getL (dropF (addL (fun _ => []) [itA, itB]) itB.2.1 (idx itA.1)) itA.1 = (itA.2, true) := by
  unfold dropF
  rw [addAB]; rfl
 rw [hg2] at q13
 rw [q13]
 refine Wp.newE fun H14 e14 k14 n14 g14 => Wp.stL g14 rfl rfl rfl (by decide) fun H15 c15 n15 g15 => ?_
 have k15 : Keeps r13.2 H15 := k14.keepsS c15 fun y hy => by subst hy; omega
 have gA : H15.get r13.2.next = some (.cells (plC itA.2) 55 true 0) := g15
 have kz : Keeps r11.2 H15 := (k12.trans k13).trans k15
 have gB3 : H15.get r7.2.next = some (.cells (plC itB.2) 55 true 0) := Keeps.got kz (by omega) gB2
 have hcnt : cntTo (addL (fun _ => []) [itA, itB]) 256 - cntTo (dropF (addL (fun _ => []) [itA, itB]) itB.2.1) 256 = 1 := by
  rw [cntOne _ (idx itA.1) (fun i hi => addAB0 hi), cntOne _ (idx itA.1) (fun i hi => by unfold dropF; rw [addAB0 hi]; rfl), if_pos (idx_lt _), if_pos (idx_lt _)]
  unfold dropF
  rw [addAB]
  simp [outA, outB]
 rw [hcnt] at q11
 refine .ifp rfl (.bnd (sldI_at gB3 (show (plC itB.2)[2]? = some (.int .i64 9) from rfl)) (.ifp (by decide) (.ifp (by rw [q11]; decide) (.ifp rfl (.bnd (sldI_at gA (show (plC itA.2)[2]? = some (.int .i64 5) from rfl)) (.of ⟨rfl, ?_⟩))))))
 have kA : Keeps h H := k1.trans kH
 have kB : Keeps h r21.2 := kA.keepsS c2 fun y hy => by
  rcases hy with rfl | ⟨i, _, a, ha, _⟩
  ·exact Nat.le_refl _
  ·cases ha
 have kC : Keeps h H9 := ((kB.trans k6).trans k7).trans k9
 have kD : Keeps h r11.2 := kC.keepsS c11 fun y hy => (T9.own hy).1
 exact kD.trans kz
theorem eqI (x y : It) : ((x.1 == y.1) && ((x.2.1 == y.2.1) && ((x.2.2.1 == y.2.2.1) && ((x.2.2.2.1 == y.2.2.2.1) && ((x.2.2.2.2.1 == y.2.2.2.2.1) && (x.2.2.2.2.2 == y.2.2.2.2.2)))))) = decide (x = y) := by
 obtain ⟨a, b, c, d, e, f⟩ := x
 obtain ⟨a', b', c', d', e', f'⟩ := y
 simp only [beq_ba, Prod.mk.injEq]
 rw [Bool.eq_iff_iff]
 simp
end
end Gc
namespace Gc
open Go Gx
variable {H : Type} {enc : TypeId × Value → H}
theorem vr_plain {μ : BMap} {x : Value} : ∀ {v : Value}, (match x with | .int _ _ => True | .string _ => True | _ => False) → VR μ x v → v = x := by
 intro v h r
 cases r <;> first | rfl | exact h.elim
theorem open_item {P : Program} {t : TypeId} {d : Nat} {w : World}
  (hT : shapeOf P d t = some (.pair .str (.pair (.pair .str (.pair (.int .i64) (.pair (.int .i64) (.pair (.int .i64) (.pair (.int .i64) .unit))))) .unit))) (ht : aggT P t = some true)
  {r : Reach} {base : Nat} {v : Value} {dd : DataW H} {ps : List MemPlace} (hval : Value.okWide P w r base t v) (hd : DataW.Trod enc P w 0 (fun _ => true) true t v dd ps) :
  ∃ x : It, (x.1.size ≤ 9223372036854775807 ∧ x.2.1.size ≤ 9223372036854775807) ∧ v = .agg ⟨itC x⟩ ∧ ∀ μ, VR μ (.agg ⟨itC x⟩) v := by
 obtain ⟨μ, h, ⟨a, ⟨b, c, e, f, g, _⟩, _⟩, cs, m, vr, rep⟩ := (Start.zero w).dataA hT ht hval hd
 obtain ⟨c1, c2, rfl, ⟨rfl, z1⟩, c3, c4, rfl, ⟨c5, c6, rfl, ⟨rfl, z2⟩, c7, c8, rfl, ⟨rfl, _⟩, c9, c10, rfl, ⟨rfl, _⟩, c11, c12, rfl, ⟨rfl, _⟩, c13, c14, rfl, ⟨rfl, _⟩, rfl⟩, rfl⟩ := rep
 have e : v = .agg ⟨itC (a, b, c, e, f, g)⟩ := by
  cases vr with
  | agg hs hv =>
   rename_i x'
   congr 1
   refine Array.ext hs.symm fun i h1 h2 => ?_
   have h3 := hv i _ _ (Array.getElem?_eq_getElem h2) (Array.getElem?_eq_getElem h1)
   refine vr_plain ?_ h3
   have : i = 0 ∨ i = 1 ∨ i = 2 ∨ i = 3 ∨ i = 4 ∨ i = 5 := by
    have : i < 6 := h2
    omega
   rcases this with rfl | rfl | rfl | rfl | rfl | rfl <;> trivial
 refine ⟨_, ⟨z1, z2⟩, e, fun μ => ?_⟩
 rw [e]
 exact VR.agg_list (VRs.of_plain rfl)
end Gc
namespace Gc
open Go Gx
def zI : List Value := [.string ⟨#[]⟩, .string ⟨#[]⟩, .int .i64 0, .int .i64 0, .int .i64 0, .int .i64 0]
theorem zI_len (n : Nat) : (zerosL n zI).length = n * 6 := by rw [zerosL_eq]; simp [List.length_flatten, zI]
theorem zI_drop (n m : Nat) : (zerosL n zI).drop (m * 6) = zerosL (n - m) zI := by
 rw [zerosL_eq, zerosL_eq]
 induction m generalizing n with
 | zero => simp
 | succ m ih =>
  cases n with
  | zero => simp
  | succ n =>
   rw [List.replicate_succ, List.flatten_cons, show (m + 1) * 6 = zI.length + m * 6 by rw [show zI.length = 6 from rfl]; omega, List.drop_length_add_append, ih]
   congr 2; omega
def flatTo (F : Nat → List It) (i : Nat) : List It := (List.range i).flatMap F
def allF (F : Nat → List It) : List It := flatTo F 256
theorem flatTo_s (F : Nat → List It) (i : Nat) : flatTo F (i + 1) = flatTo F i ++ F i := by simp [flatTo, List.range_succ]
theorem flatTo_len (F : Nat → List It) : ∀ i, (flatTo F i).length = cntTo F i
 | 0 => rfl
 | i + 1 => by rw [flatTo_s, List.length_append, flatTo_len F i, cntTo_s]
theorem cntTo_mono (F : Nat → List It) {i j : Nat} (h : i ≤ j) : cntTo F i ≤ cntTo F j := by
 induction j with
 | zero =>
  have : i = 0 := by omega
  subst this; exact Nat.le_refl _
 | succ j ih =>
  by_cases e : i = j + 1
  ·subst e; exact Nat.le_refl _
  ·rw [cntTo_s]; have := ih (by omega); omega
section
variable {k base tb : Nat} {h : AHeap} {sl : Nat → Slc} {F : Nat → List It} {s : Slc} {xs : List It}
theorem SlotR.rdS (A : SlotR base h tb s xs) : Gx.rdS 6 s h = some (xs.flatMap itC) := by
 rcases A with ⟨rfl, rfl⟩ | ⟨b, sp, cap, R, A⟩
 ·rfl
 ·rw [A.s]
  simp only [Gx.rdS]
  rw [rdL_ok A.blk (by rw [List.length_append, flat_len]; omega), List.drop_zero, show xs.length * 6 = (xs.flatMap itC).length from (flat_len xs).symm, List.take_left']
  rfl
theorem cut_tail (l ys : List It) (n m : Nat) (hm : m = l.length) : (l.flatMap itC ++ zerosL n zI).drop (0 + m * 6 + (ys.flatMap itC).length) = zerosL (n - ys.length) zI := by
 subst hm
 rw [List.drop_append, List.drop_of_length_le (by rw [flat_len]; omega), List.nil_append, flat_len, flat_len, show 0 + l.length * 6 + ys.length * 6 - l.length * 6 = ys.length * 6 by omega, zI_drop]
theorem grow_spec (D : CallF) (n : Nat) (hn : n ≤ 1000000000) (h : AHeap) : slices_Grow_api_Item_api_Item k D ⟨none, 0, 0⟩ (n : Int) h =
  some (if n = 0 then (⟨none, 0, 0⟩, h) else (⟨some ⟨h.next, 0, some 7⟩, 0, n⟩, h.new (.cells (zerosL n zI) 57 true 0))) := by
 simp only [slices_Grow_api_Item_api_Item]
 refine jn (ifn (by simp) (jn (bnd rfl ?_)))
 have e0 : IntKind.wrap .i64 (0 - ((0 : Nat) : Int)) = 0 := by decide
 have e1 : IntKind.wrap .i64 ((n : Int) - 0) = (n : Int) := by rw [Gx.w64 _ (by omega)]; omega
 dsimp only
 rw [show (((0 : Nat) : Int) : Int) = 0 from rfl] at *
 rw [show IntKind.wrap .i64 ((0 : Int) - 0) = 0 from rfl, e1]
 by_cases c : n = 0
 ·subst c
  exact ifn (by decide) (by rfl)
 ·rw [if_neg c]
  refine ifp (by simp; omega) (bnd rfl (bnd (v := ⟨none, 0, 0⟩) rfl (ifp (by omega) ?_)))
  have ea : appendA 6 64 57 h ⟨none, 0, 0⟩ (zerosL (n : Int).toNat zI) (n : Int).toNat = some (⟨some ⟨h.next, 0, some 7⟩, n, n⟩, h.new (.cells (zerosL n zI) 57 true 0)) := by
   unfold appendA
   rw [Int.toNat_natCast, if_neg (by show ¬ 0 + n ≤ 0; omega), if_pos (by show 2 * (0 + n) * 64 ≤ 281474976710656 ∧ 1 ≤ 64; omega)]
  refine bnd ea (bnd (subL_hi (hi := 0) (by rfl) (Nat.zero_le _)) rfl)
theorem all_spec (hk : 300 ≤ k) (D : CallF) (T : Tab base h tb sl F) (hN : cntTo F 256 ≤ 1000000000) :
  Gx.Wp (lookup_Table_All k D (some ⟨tb, 0, none⟩) h) fun z => AccW 6 itC 57 h.next z.2 z.1 (allF F) ∧ Keeps h z.2 := by
 simp only [lookup_Table_All]
 have es : Gx.subA 256 1 ⟨tb, 0 + 0, none⟩ none none none = some ⟨some ⟨tb, 0, some 0⟩, 256, 256⟩ := rfl
 refine .bnd rfl (.bnd es ?_)
 suffices hs : Gx.Wp (slices_Concat_api_Item_api_Item k D ⟨some ⟨tb, 0, some 0⟩, 256, 256⟩ h) fun z => AccW 6 itC 57 h.next z.2 z.1 (allF F) ∧ Keeps h z.2 from .call hs fun r q => .of q
 simp only [slices_Concat_api_Item_api_Item]
 have hix : ∀ i : Nat, i < 256 → Gx.idxL 1 ⟨some ⟨tb, 0, some 0⟩, 256, 256⟩ (i : Int) = some ⟨tb, i, none⟩ := fun i hi => by
  simp only [idxL]
  rw [if_pos (by omega)]
  simp
 refine Gx.Wp.jn fun j4 h4 => ?_
 unfold slices_Concat_api_Item_api_Item_l1
 obtain ⟨bot, eb⟩ := iterK_of (fun _ _ _ _ _ _ => none) (slices_Concat_api_Item_api_Item_l1b k D j4) (show 256 + 1 ≤ k by omega)
 rw [eb]
 have cm : ∀ i, i ≤ 256 → cntTo F i ≤ 1000000000 := fun i hi => Nat.le_trans (cntTo_mono F hi) hN
 have loop : ∀ (d i : Nat), i + d = 256 → Gx.Wp (iterK bot (d + 1) (slices_Concat_api_Item_api_Item_l1b k D j4) ⟨some ⟨tb, 0, some 0⟩, 256, 256⟩ (cntTo F i : Int) ⟨some ⟨tb, 0, some 0⟩, 256, 256⟩ 256 (i : Int) h) fun z => AccW 6 itC 57 h.next z.2 z.1 (allF F) ∧ Keeps h z.2 := fun d => by
  induction d with
  | succ d ih =>
   intro i hd
   rw [iterK_s]; simp only [slices_Concat_api_Item_api_Item_l1b]
   have S := T.slot i (by omega)
   have hc := cm (i + 1) (by omega)
   rw [cntTo_s] at hc
   refine .ifp (by simp; omega) (Gx.Wp.jn fun j32 h32 => .bnd (hix i (by omega)) (.bnd (sldL_at T.blk (tabC_get _ (by omega))) ?_))
   have ew : IntKind.wrap .i64 ((cntTo F i : Int) + ((sl i).len : Int)) = (cntTo F (i + 1) : Int) := by
    rw [Gx.w64 _ (by rw [S.len]; omega), cntTo_s, S.len]; omega
   dsimp only
   rw [ew]
   refine .ifn (by simp) ?_
   rw [h32]
   dsimp only
   rw [Gx.w1 (by omega)]
   exact ih (i + 1) (by omega)
  | zero =>
   intro i hd
   obtain rfl : i = 256 := by omega
   rw [iterK_s]; simp only [slices_Concat_api_Item_api_Item_l1b]
   refine .ifn (by decide) ?_
   rw [h4]
   refine .bnd (grow_spec D (cntTo F 256) hN h) (Gx.Wp.jn fun j8 h8 => ?_)
   unfold slices_Concat_api_Item_api_Item_l0
   obtain ⟨bot2, eb2⟩ := iterK_of (fun _ _ _ _ _ => none) (slices_Concat_api_Item_api_Item_l0b k D j8) (show 256 + 1 ≤ k by omega)
   rw [eb2]
   by_cases c0 : cntTo F 256 = 0
   ·rw [if_pos c0]
    have hz : ∀ i, i < 256 → F i = [] := fun i hi => by
     have := cntTo_mono F (show i + 1 ≤ 256 by omega)
     rw [cntTo_s] at this
     exact List.length_eq_zero_iff.1 (by omega)
    have fin : ∀ (d i : Nat), i + d = 256 → Gx.Wp (iterK bot2 (d + 1) (slices_Concat_api_Item_api_Item_l0b k D j8) ⟨none, 0, 0⟩ ⟨some ⟨tb, 0, some 0⟩, 256, 256⟩ 256 (i : Int) h) fun z => AccW 6 itC 57 h.next z.2 z.1 (allF F) ∧ Keeps h z.2 := fun d => by
     induction d with
     | zero =>
      intro i hd
      obtain rfl : i = 256 := by omega
      rw [iterK_s]; simp only [slices_Concat_api_Item_api_Item_l0b]
      refine .ifn (by decide) ?_
      rw [h8]
      have : allF F = [] := List.length_eq_zero_iff.1 (by unfold allF; rw [flatTo_len]; exact c0)
      rw [this]
      exact .of ⟨AccW.nil _ _ _ _ _, .refl _ _⟩
     | succ d ih =>
      intro i hd
      rw [iterK_s]; simp only [slices_Concat_api_Item_api_Item_l0b]
      have S := T.slot i (by omega)
      have hl : (sl i).len = 0 := by rw [S.len, hz i (by omega)]; rfl
      refine .ifp (by simp; omega) (.bnd (hix i (by omega)) (.bnd (sldL_at T.blk (tabC_get _ (by omega))) (.bnd S.rdS ?_)))
      have ea : appendA 6 64 57 h ⟨none, 0, 0⟩ ((F i).flatMap itC) (sl i).len = some (⟨none, 0, 0⟩, h) := by
       unfold appendA
       rw [hl, if_pos (Nat.le_refl _)]
      refine .bnd ea ?_
      rw [Gx.w1 (by omega)]
      exact ih (i + 1) (by omega)
    exact fin 256 0 (by omega)
   ·rw [if_neg c0]
    have fin : ∀ (d i : Nat) (H : AHeap), i + d = 256 → Keeps h H → h.next < H.next → H.get h.next = some (.cells ((flatTo F i).flatMap itC ++ zerosL (cntTo F 256 - cntTo F i) zI) 57 true 0) →
      Gx.Wp (iterK bot2 (d + 1) (slices_Concat_api_Item_api_Item_l0b k D j8) ⟨some ⟨h.next, 0, some 7⟩, cntTo F i, cntTo F 256⟩ ⟨some ⟨tb, 0, some 0⟩, 256, 256⟩ 256 (i : Int) H) fun z => AccW 6 itC 57 h.next z.2 z.1 (allF F) ∧ Keeps h z.2 := fun d => by
     induction d with
     | zero =>
      intro i H hd kp hlt hg
      obtain rfl : i = 256 := by omega
      rw [iterK_s]; simp only [slices_Concat_api_Item_api_Item_l0b]
      refine .ifn (by decide) ?_
      rw [h8]
      have hl : (allF F).length = cntTo F 256 := flatTo_len F 256
      rw [Nat.sub_self, show zerosL 0 zI = [] from rfl, List.append_nil] at hg
      refine .of ⟨⟨.inr ⟨h.next, by rw [hl], hg, fun e => c0 (by rw [← hl, e]; rfl)⟩, fun a ha => by cases ha; exact ⟨hlt, Nat.le_refl _⟩⟩, kp⟩
     | succ d ih =>
      intro i H hd kp hlt hg
      rw [iterK_s]; simp only [slices_Concat_api_Item_api_Item_l0b]
      have T' := T.keeps kp
      have S := T'.slot i (by omega)
      have hcm := cntTo_mono F (show i + 1 ≤ 256 by omega)
      rw [cntTo_s] at hcm
      have ef : flatTo F (i + 1) = flatTo F i ++ F i := flatTo_s F i
      have elen : ((flatTo F i).flatMap itC).length = cntTo F i * 6 := by rw [flat_len, flatTo_len]
      refine .ifp (by simp; omega) (.bnd (hix i (by omega)) (.bnd (sldL_at T'.blk (tabC_get _ (by omega))) (.bnd S.rdS ?_)))
      by_cases ce : F i = []
      ·have hl : (sl i).len = 0 := by rw [S.len, ce]; rfl
       have ea : appendA 6 64 57 H ⟨some ⟨h.next, 0, some 7⟩, cntTo F i, cntTo F 256⟩ ((F i).flatMap itC) (sl i).len = some (⟨some ⟨h.next, 0, some 7⟩, cntTo F i, cntTo F 256⟩, H) := by
        unfold appendA
        rw [hl, if_pos (by show cntTo F i + 0 ≤ cntTo F 256; omega)]
        rfl
       refine .bnd ea ?_
       rw [Gx.w1 (by omega)]
       have e2 : cntTo F (i + 1) = cntTo F i := by rw [cntTo_s, ce]; rfl
       have := ih (i + 1) H (by omega) kp hlt (by rw [ef, ce, List.append_nil, e2]; exact hg)
       rw [e2] at this
       exact this
      ·have hne : (F i).flatMap itC ≠ [] := fun e => by
        have := flat_len (F i)
        rw [e] at this
        exact ce (List.length_eq_zero_iff.1 (by simp at this; omega))
       have hlz : (F i).length ≠ 0 := fun e => ce (List.length_eq_zero_iff.1 e)
       have hclen : ((flatTo F i).flatMap itC ++ zerosL (cntTo F 256 - cntTo F i) zI).length = cntTo F 256 * 6 := by
        rw [List.length_append, elen, zI_len]; omega
       have ew := wrL_ok (o := 0 + cntTo F i * 6) (vs := (F i).flatMap itC) hg (by rw [hclen, flat_len, Nat.zero_add, ← Nat.add_mul]; exact Nat.mul_le_mul_right _ hcm) (flat_one _) hne
       have esp : splice ((flatTo F i).flatMap itC ++ zerosL (cntTo F 256 - cntTo F i) zI) (0 + cntTo F i * 6) ((F i).flatMap itC) = (flatTo F (i + 1)).flatMap itC ++ zerosL (cntTo F 256 - cntTo F (i + 1)) zI := by
        unfold splice
        have e1 : ((flatTo F i).flatMap itC ++ zerosL (cntTo F 256 - cntTo F i) zI).take (0 + cntTo F i * 6) = (flatTo F i).flatMap itC := by rw [Nat.zero_add, ← elen, List.take_left']; rfl
        have e2 := cut_tail (flatTo F i) (F i) (cntTo F 256 - cntTo F i) (cntTo F i) (flatTo_len F i).symm
        rw [Nat.sub_sub, ← cntTo_s F i] at e2
        rw [e1, e2, ef, List.flatMap_append]
       rw [esp] at ew
       have ea : appendA 6 64 57 H ⟨some ⟨h.next, 0, some 7⟩, cntTo F i, cntTo F 256⟩ ((F i).flatMap itC) (sl i).len = some (⟨some ⟨h.next, 0, some 7⟩, cntTo F (i + 1), cntTo F 256⟩, H.set h.next (.cells ((flatTo F (i + 1)).flatMap itC ++ zerosL (cntTo F 256 - cntTo F (i + 1)) zI) 57 true 0)) := by
        unfold appendA
        rw [S.len, if_pos (by show cntTo F i + (F i).length ≤ cntTo F 256; exact hcm)]
        simp only
        rw [if_neg hlz, ew, cntTo_s F i]
        rfl
       refine .bnd ea ?_
       rw [Gx.w1 (by omega)]
       exact ih (i + 1) _ (by omega) (kp.set (Nat.le_refl _)) (by simpa using hlt) (by simp)
    have := fin 256 0 (h.new (.cells (zerosL (cntTo F 256) zI) 57 true 0)) (by omega) (Keeps.new h _) (by simp) (by simp [flatTo, cntTo])
    exact this
 exact loop 256 0 (by omega)
end
end Gc
namespace Gc
open Go Gx Go.RowKit Go.Maps
def addD (o : List ByteArray) (x : ByteArray) : List ByteArray := if o.getLast? = some x then o else o ++ [x]
def ddL (xs : List ByteArray) : List ByteArray := xs.foldl addD []
theorem ddL_snoc (xs : List ByteArray) (x : ByteArray) : ddL (xs ++ [x]) = addD (ddL xs) x := by simp [ddL, List.foldl_append]
theorem addD_last (o : List ByteArray) (x : ByteArray) : (addD o x).getLast? = some x := by
 unfold addD
 split
 ·assumption
 ·simp
theorem ddL_last (xs : List ByteArray) : (ddL xs).getLast? = xs.getLast? := by
 rcases List.eq_nil_or_concat xs with rfl | ⟨l, x, rfl⟩
 ·rfl
 ·rw [List.concat_eq_append, ddL_snoc, addD_last]; simp
theorem ddL_ind {Q : List ByteArray → Prop} (h0 : Q []) (h1 : ∀ l x, Q l → Q (l ++ [x])) : ∀ xs, Q xs := by
 intro xs
 have : ∀ n (l : List ByteArray), l.length = n → Q l := by
  intro n
  induction n with
  | zero => intro l hl; rw [List.length_eq_zero_iff.1 hl]; exact h0
  | succ n ih =>
   intro l hl
   rcases List.eq_nil_or_concat l with rfl | ⟨t, x, rfl⟩
   ·simp at hl
   ·rw [List.concat_eq_append] at hl ⊢
    exact h1 t x (ih t (by simp at hl; omega))
 exact this _ xs rfl
theorem ddL_len (xs : List ByteArray) : (ddL xs).length ≤ xs.length := by
 refine ddL_ind (Q := fun xs => (ddL xs).length ≤ xs.length) (Nat.le_refl _) (fun l x ih => ?_) xs
 rw [ddL_snoc, List.length_append]
 unfold addD
 split
 ·exact Nat.le_trans ih (Nat.le_add_right _ _)
 ·rw [List.length_append]; exact Nat.add_le_add_right ih _
theorem ddL_mem (xs : List ByteArray) (y : ByteArray) : y ∈ ddL xs ↔ y ∈ xs := by
 refine ddL_ind (Q := fun xs => y ∈ ddL xs ↔ y ∈ xs) (Iff.rfl) (fun l x ih => ?_) xs
 rw [ddL_snoc, List.mem_append, List.mem_singleton]
 unfold addD
 split
 ·rename_i e
  constructor
  ·intro h; exact .inl (ih.1 h)
  ·rintro (h | rfl)
   ·exact ih.2 h
   ·exact List.mem_of_getLast? e
 ·rw [List.mem_append, List.mem_singleton, ih]
def leT (a b : ByteArray) : Prop := bl a ≤ bl b
theorem ddL_rises (xs : List ByteArray) (h : xs.Pairwise leT) : (ddL xs).Pairwise ltB := by
 revert h
 refine ddL_ind (Q := fun xs => xs.Pairwise leT → (ddL xs).Pairwise ltB) (fun _ => List.Pairwise.nil) (fun l x ih h => ?_) xs
 rw [List.pairwise_append] at h
 rw [ddL_snoc]
 unfold addD
 split
 ·exact ih h.1
 ·rename_i hne
  rw [List.pairwise_append]
  refine ⟨ih h.1, List.pairwise_singleton _ _, fun a ha b hb => ?_⟩
  rw [List.mem_singleton] at hb
  subst hb
  have hax : leT a b := h.2.2 a ((ddL_mem _ _).1 ha) b (List.mem_singleton.2 rfl)
  rcases ltB_total a b with g | g | g
  ·exact g
  ·subst g
   exfalso
   obtain ⟨z, hz⟩ : ∃ z, (ddL l).getLast? = some z := by
    cases e : (ddL l).getLast? with
    | none => rw [List.getLast?_eq_none_iff] at e; rw [e] at ha; cases ha
    | some z => exact ⟨z, rfl⟩
   have hzm : z ∈ ddL l := List.mem_of_getLast? hz
   have hza : leT z a := h.2.2 z ((ddL_mem _ _).1 hzm) a (List.mem_singleton.2 rfl)
   have haz : a = z ∨ ltB a z := by
    obtain ⟨t, ht⟩ := List.getLast?_eq_some_iff.1 hz
    have hp := ih h.1
    rw [ht, List.pairwise_append] at hp
    rw [ht] at ha
    rcases List.mem_append.1 ha with g | g
    ·exact .inr (hp.2.2 a g z (List.mem_singleton.2 rfl))
    ·exact .inl (List.mem_singleton.1 g)
   rcases haz with rfl | g
   ·exact hne hz
   ·exact List.lt_irrefl _ (List.lt_of_le_of_lt hza g)
  ·exact absurd (List.lt_of_le_of_lt hax g) (List.lt_irrefl _)
theorem rise_eq {xs ys : List ByteArray} (h1 : xs.Pairwise ltB) (h2 : ys.Pairwise ltB) (h : ∀ x, x ∈ xs ↔ x ∈ ys) : xs = ys := by
 have nd : ∀ {l : List ByteArray}, l.Pairwise ltB → l.Nodup := fun hr => List.Pairwise.imp (fun {a b} hab e => by subst e; exact List.lt_irrefl _ hab) hr
 have pm : xs.Perm ys := (List.perm_ext_iff_of_nodup (nd h1) (nd h2)).2 h
 exact pm.eq_of_pairwise (fun a b _ _ hab hba => absurd (List.lt_trans hab hba) (List.lt_irrefl _)) h1 h2
def ba (l : List UInt8) : ByteArray := ⟨⟨l⟩⟩
def sortB (xs : List ByteArray) : List ByteArray := ((xs.map bl).mergeSort leB).map ba
theorem srt_sortB (xs : List ByteArray) : srt xs = (sortB xs).map encS := by
 simp only [srt, sortB, List.map_map]; rfl
theorem sortB_perm (xs : List ByteArray) : (sortB xs).Perm xs := by
 unfold sortB
 have := (List.mergeSort_perm (xs.map bl) leB).map ba
 rw [List.map_map] at this
 have e : (ba ∘ bl) = id := by funext x; rfl
 rw [e, List.map_id] at this
 exact this
theorem sortB_len (xs : List ByteArray) : (sortB xs).length = xs.length := (sortB_perm xs).length_eq
theorem sortB_le (xs : List ByteArray) : (sortB xs).Pairwise leT := by
 unfold sortB
 have tr : ∀ a b c : List UInt8, leB a b = true → leB b c = true → leB a c = true := fun a b c h1 h2 => by simp only [leB, decide_eq_true_eq] at *; exact List.le_trans h1 h2
 have tt : ∀ a b : List UInt8, (leB a b || leB b a) = true := fun a b => by simp only [leB, Bool.or_eq_true, decide_eq_true_eq]; exact List.le_total a b
 refine List.Pairwise.map _ (fun a b hab => ?_) (List.pairwise_mergeSort tr tt (xs.map bl))
 simpa [leB, leT, bl, ba] using hab
end Gc
namespace Gc
open Go Gx Go.RowKit Go.Maps
theorem eqIt (x y : It) : ((x.1 == y.1) && ((x.2.1 == y.2.1) && ((x.2.2.1 == y.2.2.1) && ((x.2.2.2.1 == y.2.2.2.1) && ((x.2.2.2.2.1 == y.2.2.2.2.1) && (x.2.2.2.2.2 == y.2.2.2.2.2)))))) = decide (x = y) := eqI x y
section
variable {k base tb : Nat} {h : AHeap} {sl : Nat → Slc} {F : Nat → List It} {s t : Slc} {xs ys : List It}
theorem same_spec (D : CallF) (R : RowW 6 itC h s xs) (S : RowW 6 itC h t ys) (hl : xs.length + 2 ≤ k) (hb : xs.length ≤ 1000000000) : Gx.Wp (law15_sameItems k D s t h) fun z => z.1 = decide (xs = ys) ∧ z.2 = h := by
 simp only [law15_sameItems]
 by_cases hc : xs.length = ys.length
 rotate_left
 ·exact .ifp (by rw [R.len, S.len]; simp; omega) (.of ⟨by symm; exact decide_eq_false (fun e => hc (by rw [e])), rfl⟩)
 refine .ifn (by rw [R.len, S.len]; simp; omega) (Gx.Wp.jn fun j2 h2 => ?_)
 unfold law15_sameItems_l0
 obtain ⟨bot, eb⟩ := iterK_of (fun _ _ _ _ => none) (law15_sameItems_l0b k D j2) (show xs.length + 1 ≤ k by omega)
 rw [eb]
 have loop : ∀ (d i : Nat), i + d = xs.length → xs.take i = ys.take i → Gx.Wp (iterK bot (d + 1) (law15_sameItems_l0b k D j2) s t (i : Int) h) fun z => z.1 = decide (xs = ys) ∧ z.2 = h := fun d => by
  induction d with
  | zero =>
   intro i hd ht
   rw [iterK_s]; simp only [law15_sameItems_l0b]
   refine .ifn (by rw [R.len]; simp; omega) ?_
   rw [h2]
   rw [List.take_of_length_le (by omega), List.take_of_length_le (by omega)] at ht
   exact .of ⟨by symm; exact decide_eq_true ht, rfl⟩
  | succ d ih =>
   intro i hd ht
   rw [iterK_s]; simp only [law15_sameItems_l0b]
   obtain ⟨x, hx⟩ := isome (l := xs) (i := i) (by omega)
   obtain ⟨y, hy⟩ := isome (l := ys) (i := i) (by omega)
   obtain ⟨q, b1, b2, _⟩ := R.ld itC_len (by decide) hx
   obtain ⟨q', c1, c2, _⟩ := S.ld itC_len (by decide) hy
   refine .ifp (by rw [R.len]; simp; omega) (.bnd b1 (.bnd b2 (.bnd (decI6 x) (.bnd c1 (.bnd c2 (.bnd (decI6 y) ?_))))))
   rw [eqIt]
   by_cases e : x = y
   ·refine .ifn (by simp [e]) ?_
    rw [Gx.w1 (by omega)]
    refine ih (i + 1) (by omega) ?_
    rw [List.take_add_one, List.take_add_one, ht, hx, hy, e]
   ·refine .ifp (by simp [e]) (.of ⟨?_, rfl⟩)
    symm; refine decide_eq_false (fun e2 => e ?_)
    rw [e2, hy] at hx; exact (Option.some.inj hx).symm
 exact loop xs.length 0 (by omega) rfl
theorem len_spec (hk : 300 ≤ k) (D : CallF) (T : Tab base h tb sl F) (hN : cntTo F 256 ≤ 1000000000) : Gx.Wp (lookup_Table_Len k D (some ⟨tb, 0, none⟩) h) fun z => z.1 = (cntTo F 256 : Int) ∧ z.2 = h := by
 simp only [lookup_Table_Len]
 refine Gx.Wp.jn fun j3 h3 => .bnd rfl (.bnd (tab_all T) (.bnd (decA_tab sl) ?_))
 unfold lookup_Table_Len_l0
 obtain ⟨bot, eb⟩ := iterK_of (fun _ _ _ _ => none) (lookup_Table_Len_l0b k D j3) (show 256 + 1 ≤ k by omega)
 rw [eb]
 have loop : ∀ (d i : Nat), i + d = 256 → Gx.Wp (iterK bot (d + 1) (lookup_Table_Len_l0b k D j3) (cntTo F i : Int) (tabC sl) (i : Int) h) fun z => z.1 = (cntTo F 256 : Int) ∧ z.2 = h := fun d => by
  induction d with
  | zero =>
   intro i hd
   obtain rfl : i = 256 := by omega
   rw [iterK_s]; simp only [lookup_Table_Len_l0b]
   refine .ifn (by decide) ?_
   rw [h3]
   exact .of ⟨rfl, rfl⟩
  | succ d ih =>
   intro i hd
   rw [iterK_s]; simp only [lookup_Table_Len_l0b]
   have S := T.slot i (by omega)
   have hc := cntTo_mono F (show i + 1 ≤ 256 by omega)
   have hs := cntTo_s F i
   refine .ifp (by simp; omega) (.ifp (by omega) (.bnd (a := .slice (sl i).a (sl i).len (sl i).cap) ?_ (.bnd rfl (.bnd (decA_tab sl) ?_))))
   ·rw [Int.toNat_natCast, Nat.mul_one]; exact tabC_get _ (by omega)
   ·have ew : IntKind.wrap .i64 ((cntTo F i : Int) + ((sl i).len : Int)) = (cntTo F (i + 1) : Int) := by
     rw [Gx.w64 _ (by rw [S.len]; omega), hs, S.len]; omega
    dsimp only
    rw [ew, Gx.w1 (by omega)]
    exact ih (i + 1) (by omega)
 exact loop 256 0 (by omega)
theorem Row.lastS {h : AHeap} {s : Slc} {o : List ByteArray} {x : ByteArray} (R : Row encS h s o) (hx : o.getLast? = some x) (hl : o.length ≤ 1000000000) : ∃ q, Gx.idxL 1 s (IntKind.wrap .i64 ((s.len : Int) - 1)) = some q ∧ Gx.ldS q h = some x := by
 have hne : o ≠ [] := fun e => by rw [e] at hx; cases hx
 have hlen : 0 < o.length := List.length_pos_iff.2 hne
 have e : IntKind.wrap .i64 ((s.len : Int) - 1) = ((o.length - 1 : Nat) : Int) := by rw [show s.len = o.length from R.1, Gx.w64 _ (by omega)]; omega
 rw [e]
 exact R.ldS (by rw [← List.getLast?_eq_getElem?]; exact hx)
theorem ids_spec (hk : 300 ≤ k) (D : CallF) (T : Tab base h tb sl F) (hN : cntTo F 256 ≤ 1000000000) (hkN : cntTo F 256 + 10 ≤ k) :
  Gx.Wp (lookup_Table_Ids k D (some ⟨tb, 0, none⟩) h) fun z => Acc encS 9 h.next z.2 z.1 (ddL ((allF F).map (·.1))) ∧ Keeps h z.2 := by
 simp only [lookup_Table_Ids]
 refine Gx.Wp.jn fun j3 h3 => .call (all_spec hk D T hN) fun r ⟨A, kr⟩ => ?_
 obtain ⟨xs, exs⟩ : ∃ xs, xs = allF F := ⟨_, rfl⟩
 have hxl : xs.length = cntTo F 256 := by rw [exs]; exact flatTo_len F 256
 rw [← exs] at A ⊢
 have R := A.row itC_len
 obtain ⟨ws, ews⟩ : ∃ ws, ws = xs.map (·.1) := ⟨_, rfl⟩
 have hwl : ws.length = xs.length := by rw [ews, List.length_map]
 rw [← ews]
 unfold lookup_Table_Ids_l0
 obtain ⟨bot, eb⟩ := iterK_of (fun _ _ _ _ _ => none) (lookup_Table_Ids_l0b k D j3) (show xs.length + 1 ≤ k by omega)
 rw [eb]
 have nr := kr.nx
 have loop : ∀ (d i : Nat) (o : Slc) (H : AHeap), i + d = xs.length → Keeps r.2 H → Acc encS 9 r.2.next H o (ddL (ws.take i)) → Gx.Wp (iterK bot (d + 1) (lookup_Table_Ids_l0b k D j3) o r.1 (r.1.len : Int) (i : Int) H) fun z => Acc encS 9 h.next z.2 z.1 (ddL ws) ∧ Keeps h z.2 := fun d => by
  induction d with
  | zero =>
   intro i o H hd kp Ao
   rw [iterK_s]; simp only [lookup_Table_Ids_l0b]
   refine .ifn (by rw [R.len]; simp; omega) ?_
   rw [h3]
   rw [List.take_of_length_le (by omega)] at Ao
   exact .of ⟨⟨Ao.st, fun a ha => ⟨(Ao.lt a ha).1, Nat.le_trans nr (Ao.lt a ha).2⟩⟩, kr.trans kp⟩
  | succ d ih =>
   intro i o H hd kp Ao
   rw [iterK_s]; simp only [lookup_Table_Ids_l0b]
   obtain ⟨x, hx⟩ := isome (l := xs) (i := i) (by omega)
   obtain ⟨q, b1, b2, _⟩ := (R.keeps kp).ld itC_len (by decide) hx
   have et : ws.take (i + 1) = ws.take i ++ [x.1] := by rw [List.take_add_one, ews, List.getElem?_map, hx]; rfl
   have edd : ddL (ws.take (i + 1)) = addD (ddL (ws.take i)) x.1 := by rw [et, ddL_snoc]
   have hol : (ddL (ws.take i)).length ≤ 1000000000 := Nat.le_trans (ddL_len _) (by rw [List.length_take]; omega)
   refine .ifp (by rw [R.len]; simp; omega) (Gx.Wp.jn fun j16 h16 => .bnd b1 (.bnd b2 (.bnd (decI6 x) (Wp.newE fun H1 e1 k1 n1 g1 => Wp.stL g1 rfl rfl rfl (by decide) fun H2 c2 n2 g2 => Gx.Wp.jn fun j29 h29 => ?_))))
   have gx : H2.get H.next = some (.cells (itC x) 57 true 0) := g2
   have nk := kp.nx
   have k2 : Keeps r.2 H2 := (kp.trans k1).keepsS c2 fun y hy => by subst hy; omega
   have k2' : Keeps H H2 := k1.keepsS c2 fun y hy => by subst hy; omega
   have A2 := Ao.keeps k2'
   have lx : ldS ⟨H.next, 0, none⟩ H2 = some x.1 := by simp [ldS, AHeap.rd1, gx, itC, decS]
   have nH2 := k2'.nx
   have step : ∀ (y27 : Bool), y27 = decide (¬ (ddL (ws.take i)).getLast? = some x.1) → Gx.Wp (j29 o (some ⟨H.next, 0, none⟩) r.1 (r.1.len : Int) (i : Int) y27 H2) fun z => Acc encS 9 h.next z.2 z.1 (ddL ws) ∧ Keeps h z.2 := fun y27 hy => by
    rw [h29]
    by_cases c : (ddL (ws.take i)).getLast? = some x.1
    ·refine .ifn (by simp [hy, c]) ?_
     rw [h16]
     dsimp only
     rw [Gx.w1 (by omega)]
     refine ih (i + 1) o H2 (by omega) k2 ?_
     rw [edd]
     unfold addD
     rw [if_pos c]; exact A2
    ·refine .ifp (by simp [hy, c]) (.bnd rfl (.bnd (show ldS ⟨H.next, 0 + 0, none⟩ H2 = some x.1 from lx) (Wp.newE fun H3 e3 k3 n3 g3 => ?_)))
     have nk2 := k2.nx
     obtain ⟨s', h9, a1, a2, A', c9, d9⟩ := Acc.pushK A2 (fun _ => rfl) x.1 (bytes := 16) e3 (by omega) (by decide) nk2
     refine .bnd a1 (.bnd a2 ?_)
     rw [h16]
     dsimp only
     rw [Gx.w1 (by omega)]
     refine ih (i + 1) s' h9 (by omega) (k2.keepsS c9 fun y ⟨a, ha, e⟩ => by rw [e]; exact (A2.lt a ha).2) ?_
     rw [edd]
     unfold addD
     rw [if_neg c]; exact A'
   have Ro := A2.row
   by_cases c0 : ddL (ws.take i) = []
   ·refine .ifp (by rw [Ro.1, c0]; rfl) (step true ?_)
    rw [c0]; rfl
   ·obtain ⟨z, hz⟩ : ∃ z, (ddL (ws.take i)).getLast? = some z := by
     cases e : (ddL (ws.take i)).getLast? with
     | none => exact absurd (List.getLast?_eq_none_iff.1 e) c0
     | some z => exact ⟨z, rfl⟩
    obtain ⟨q2, d1, d2⟩ := Row.lastS Ro hz hol
    refine .ifn (by rw [Ro.1]; simp; exact c0) (.bnd d1 (.bnd d2 (.bnd lx (step _ ?_))))
    rw [hz, beq_ba]
    by_cases e : z = x.1
    ·simp [e]
    ·simp [e]
 exact loop xs.length 0 ⟨none, 0, 0⟩ r.2 (by omega) (.refl _ _) (Acc.nil _ _ _ _)
end
end Gc
namespace Gc
open Go Gx Go.RowKit Go.Maps
section
variable {k base tb : Nat} {h : AHeap} {sl : Nat → Slc} {F : Nat → List It} {s t : Slc} {xs ys : List ByteArray}
def WR (w : Nat) (h : AHeap) (s : Slc) : Prop := (s.len ≠ 0 → s.a ≠ none) ∧ ∀ a, s.a = some a → ∃ c e, h.get a.block = some (.cells c e true 0) ∧ a.off + s.len * w ≤ c.length
theorem WR.poke {w i j : Nat} {v : Value} {h : AHeap} {s : Slc} (W : WR w h s) (hi : i < s.len) (hj : j < w) (hv : one v = true) : ∃ q h', Gx.idxL w s (i : Int) = some q ∧ st1 ⟨q.block, q.off + j, none⟩ v h = some h' ∧ WR w h' s ∧ Chg (ofS s) h h' := by
 obtain ⟨a, ha⟩ : ∃ a, s.a = some a := by
  cases e : s.a with
  | none => exact absurd e (W.1 (by omega))
  | some a => exact ⟨a, rfl⟩
 obtain ⟨c, e, hg, hl⟩ := W.2 a ha
 have hb : i * w + w ≤ s.len * w := by
  have := Nat.mul_le_mul_right w hi
  rw [Nat.succ_mul] at this; exact this
 refine ⟨⟨a.block, a.off + i * w, none⟩, _, ?_, st1_of hg (by show a.off + i * w + j < c.length; omega) hv, ⟨W.1, fun a' ha' => ?_⟩, Chg.set (.inr ⟨a, ha, rfl⟩)⟩
 ·simp only [idxL, ha]
  rw [if_pos (by omega), Int.toNat_natCast]
 ·rw [ha] at ha'; cases ha'
  exact ⟨_, e, sset_get _ _ _, by rw [List.length_set]; exact hl⟩
theorem WR.chg {S : Nat → Prop} {w : Nat} {h h' : AHeap} {s : Slc} (W : WR w h s) (c : Chg S h h') (hs : ∀ a, s.a = some a → a.block < h.next ∧ ¬ S a.block) : WR w h' s :=
 ⟨W.1, fun a ha => by
  obtain ⟨cc, e, hg, hl⟩ := W.2 a ha
  exact ⟨cc, e, c.got (hs a ha).1 (hs a ha).2 hg, hl⟩⟩
theorem WR.ofW {α : Type} {w : Nat} {enc : α → List Value} {e : TypeId} {base : Nat} {h : AHeap} {s : Slc} {xs : List α} (hw : ∀ x, (enc x).length = w) (A : AccW w enc e base h s xs) : WR w h s := by
 rcases A.st with ⟨rfl, rfl⟩ | ⟨b, rfl, h2, h3⟩
 ·exact ⟨fun e => absurd rfl e, fun a ha => by cases ha⟩
 ·exact ⟨fun _ => by simp, fun a ha => by cases ha; exact ⟨_, _, h2, by rw [flatW_length hw]; simp⟩⟩
theorem WR.ofA {base : Nat} {h : AHeap} {s : Slc} {xs : List ByteArray} (A : Gx.Acc encS 9 base h s xs) : WR 1 h s := by
 rcases A.st with ⟨rfl, rfl⟩ | ⟨b, g⟩
 ·exact ⟨fun e => absurd rfl e, fun a ha => by cases ha⟩
 ·have gb : h.get b = some (.cells (xs.map encS) 9 true 0) := g.blk
  obtain ⟨rfl, -, -⟩ := g
  exact ⟨fun _ => by simp, fun a ha => by cases ha; exact ⟨_, _, gb, by simp⟩⟩
theorem one_strs (l : List ByteArray) : allOne (l.map encS) = true := by
 induction l with
 | nil => rfl
 | cons x l ih => exact ih
theorem sort_acc (A : Gx.Acc encS 9 base h s xs) (hb : xs.length ≤ 1000000000) : ∃ h', sortS s h = some h' ∧ Gx.Acc encS 9 base h' s (sortB xs) ∧ Chg (ofS s) h h' := by
 rcases A.st with ⟨rfl, rfl⟩ | ⟨b, g⟩
 ·exact ⟨h, rfl, ⟨.inl ⟨rfl, by simp [sortB]⟩, fun a ha => by cases ha⟩, .refl _ _⟩
 ·have hlt := A.lt ⟨b, 0, some 2⟩ (by rw [g.s])
  have gb : h.get b = some (.cells (xs.map encS) 9 true 0) := g.blk
  have hsl : (srt xs).length = xs.length := by rw [srt_sortB, List.length_map, sortB_len]
  have hxl : 0 < xs.length := List.length_pos_iff.2 g.ne
  have hne : srt xs ≠ [] := fun e => by rw [e] at hsl; simp at hsl; omega
  have e1 : h.rdL b 0 xs.length = some (xs.map encS) := by
   rw [rdL_ok gb (by simp), List.drop_zero, List.take_of_length_le (by simp)]
  have e2 := wrL_ok (o := 0) (vs := srt xs) gb (by rw [hsl]; simp) (by rw [srt_sortB]; exact one_strs _) hne
  have e3 : splice (xs.map encS) 0 (srt xs) = (sortB xs).map encS := by
   unfold splice
   rw [List.take_zero, List.nil_append, List.drop_of_length_le (by rw [hsl]; simp), List.append_nil, srt_sortB]
  rw [e3] at e2
  have es : sortS s h = some (h.set b (.cells ((sortB xs).map encS) 9 true 0)) := by
   rw [g.s]
   unfold sortS sortA
   have hz : Nat.beq xs.length 0 = false := by
    cases c : Nat.beq xs.length 0 with
    | false => rfl
    | true => have := Nat.eq_of_beq_eq_true c; omega
   simp only [hz, cond_false]
   rw [e1]
   show ((unstrs (xs.map encS)).bind fun xs => _) = _
   rw [show xs.map encS = xs.map Value.string from rfl, unstrs_map]
   show (if xs.length < 4611686018427387904 then h.wrL b 0 (srt xs) else none) = _
   rw [if_pos (by omega)]; exact e2
  refine ⟨_, es, ⟨.inr ⟨b, by rw [g.s, sortB_len], by rw [sset_get]; rfl, fun e => ?_⟩, fun a ha => ?_⟩, Chg.set (.inr ⟨⟨b, 0, some 2⟩, by rw [g.s], rfl⟩)⟩
  ·have := sortB_len xs; rw [e] at this; simp at this; omega
  ·have := A.lt a ha; exact ⟨by simpa using this.1, this.2⟩
theorem strAt {H : AHeap} {b o i : Nat} {cs : List ByteArray} {x : ByteArray} (g : H.get b = some (.cells (cs.map encS) 9 true 0)) (hx : cs[o + i]? = some x) : ldS ⟨b, o + i, none⟩ H = some x := by
 simp [ldS, AHeap.rd1, g, hx, encS, decS]
theorem compact_spec (D : CallF) (A : Gx.Acc encS 9 base h s xs) (hb : xs.length ≤ 1000000000) (hk : xs.length + 10 ≤ k) :
  Gx.Wp (slices_Compact_string_string k D s h) fun z => Row encS z.2 z.1 (ddL xs) ∧ (∀ a, z.1.a = some a → base ≤ a.block ∧ a.block < z.2.next) ∧ WR 1 z.2 z.1 ∧ Chg (ofS s) h z.2 := by
 simp only [slices_Compact_string_string]
 have R0 := A.row
 by_cases c2 : xs.length < 2
 ·refine .ifp (by rw [show s.len = xs.length from R0.1]; simp; omega) (.of ⟨?_, fun a ha => ⟨(A.lt a ha).2, (A.lt a ha).1⟩, WR.ofA A, .refl _ _⟩)
  have : ddL xs = xs := by
   match xs, c2 with
   | [], _ => rfl
   | [x], _ => rfl
  rw [this]; exact R0
 refine .ifn (by rw [show s.len = xs.length from R0.1]; simp; omega) (Gx.Wp.jn fun j3 h3 => ?_)
 rcases A.st with ⟨rfl, rfl⟩ | ⟨b, g⟩
 ·simp at c2
 have hlt := A.lt ⟨b, 0, some 2⟩ (by rw [g.s])
 have gb : h.get b = some (.cells (xs.map encS) 9 true 0) := g.blk
 have WR0 := WR.ofA A
 obtain ⟨rfl, -, -⟩ := g
 obtain ⟨n, hn⟩ : ∃ n, n = xs.length := ⟨_, rfl⟩
 rw [← hn]
 rw [← hn] at R0 hb hk c2 WR0
 have hix : ∀ i : Nat, i < n → Gx.idxL 1 ⟨some ⟨b, 0, some 2⟩, n, n⟩ (i : Int) = some ⟨b, 0 + i, none⟩ := fun i hi => by
  simp only [idxL]
  rw [if_pos (by omega)]
  simp
 unfold slices_Compact_string_string_l0
 obtain ⟨bot, eb⟩ := iterK_of (fun _ _ _ => none) (slices_Compact_string_string_l0b k D j3) (show n - 1 + 1 ≤ k by omega)
 rw [eb]
 have loop : ∀ (d i : Nat), 1 ≤ i → i + d = n → ddL (xs.take i) = xs.take i → Gx.Wp (iterK bot (d + 1) (slices_Compact_string_string_l0b k D j3) ⟨some ⟨b, 0, some 2⟩, n, n⟩ (i : Int) h) fun z => Row encS z.2 z.1 (ddL xs) ∧ (∀ a, z.1.a = some a → base ≤ a.block ∧ a.block < z.2.next) ∧ WR 1 z.2 z.1 ∧ Chg (ofS ⟨some ⟨b, 0, some 2⟩, n, n⟩) h z.2 := fun d => by
  induction d with
  | zero =>
   intro i h1 hd hdd
   rw [iterK_s]; simp only [slices_Compact_string_string_l0b]
   refine .ifn (by simp; omega) ?_
   rw [h3]
   rw [List.take_of_length_le (by omega)] at hdd
   refine .of ⟨by rw [hdd]; exact R0, fun a ha => by cases ha; exact ⟨hlt.2, hlt.1⟩, WR0, .refl _ _⟩
  | succ d ih =>
   intro i h1 hd hdd
   rw [iterK_s]; simp only [slices_Compact_string_string_l0b]
   obtain ⟨x, hx⟩ := isome (l := xs) (i := i) (by omega)
   obtain ⟨y, hy⟩ := isome (l := xs) (i := i - 1) (by omega)
   have e1 : IntKind.wrap .i64 ((i : Int) - 1) = ((i - 1 : Nat) : Int) := by rw [Gx.w64 _ (by omega)]; omega
   rw [e1]
   have hlast : (ddL (xs.take i)).getLast? = some y := by
    rw [ddL_last, List.getLast?_eq_getElem?, List.getElem?_take]
    rw [List.length_take, if_pos (by omega), ← hy]; congr 1; omega
   have hsn : ddL (xs.take (i + 1)) = addD (ddL (xs.take i)) x := by rw [← ddL_snoc, List.take_add_one, hx]; rfl
   refine .ifp (by simp; omega) (Gx.Wp.jn fun j11 h11 => .bnd (hix i (by omega)) (.bnd (strAt gb (by rw [Nat.zero_add]; exact hx)) (.bnd (hix (i - 1) (by omega)) (.bnd (strAt gb (by rw [Nat.zero_add]; exact hy)) ?_))))
   rw [beq_ba]
   by_cases c : x = y
   rotate_left
   ·refine .ifn (by simp [c]) ?_
    rw [h11]
    dsimp only
    rw [Gx.w1 (by omega)]
    refine ih (i + 1) (by omega) (by omega) ?_
    rw [hsn, hdd]
    unfold addD
    rw [hdd] at hlast
    rw [if_neg (by rw [hlast]; intro e; exact c (Option.some.inj e).symm), List.take_add_one, hx]; rfl
   ·refine .ifp (by simp [c]) ?_
    have hd0 : ddL (xs.take (i + 1)) = xs.take i := by
     rw [hsn]
     unfold addD
     rw [if_pos (by rw [hlast, c]), hdd]
    refine .bnd (subL_lo (by rfl) (by omega) (Nat.le_refl _) (by omega)) (Gx.Wp.jn fun j20 h20 => ?_)
    have hix2 : ∀ j : Nat, j < n - i → Gx.idxL 1 ⟨some ⟨b, 0 + i * 1, some 2⟩, n - i, n - i⟩ (j : Int) = some ⟨b, i + j, none⟩ := fun j hj => by
     simp only [idxL]
     rw [if_pos (by omega)]
     simp
    unfold slices_Compact_string_string_l1
    obtain ⟨bot2, eb2⟩ := iterK_of (fun _ _ _ _ _ => none) (slices_Compact_string_string_l1b k D j20) (show (n - i - 1) + 1 ≤ k by omega)
    rw [eb2]
    have fin : ∀ (d2 j : Nat) (H : AHeap) (cs : List ByteArray) (kv : Nat), 1 ≤ j → j + d2 = n - i → Chg (· = b) h H → H.get b = some (.cells (cs.map encS) 9 true 0) → cs.length = n → kv = (ddL (xs.take (i + j))).length → kv ≤ i + j - 1 → cs.take kv = ddL (xs.take (i + j)) → cs.drop (i + j - 1) = xs.drop (i + j - 1) →
      Gx.Wp (iterK bot2 (d2 + 1) (slices_Compact_string_string_l1b k D j20) ⟨some ⟨b, 0, some 2⟩, n, n⟩ (kv : Int) ⟨some ⟨b, 0 + i * 1, some 2⟩, n - i, n - i⟩ (j : Int) H) fun z => Row encS z.2 z.1 (ddL xs) ∧ (∀ a, z.1.a = some a → base ≤ a.block ∧ a.block < z.2.next) ∧ WR 1 z.2 z.1 ∧ Chg (ofS ⟨some ⟨b, 0, some 2⟩, n, n⟩) h z.2 := fun d2 => by
     induction d2 with
     | zero =>
      intro j H cs kv hj hjd cH gH hcl hkv hkl htk hdr
      rw [iterK_s]; simp only [slices_Compact_string_string_l1b]
      refine .ifn (by simp; omega) ?_
      rw [h20]
      have hall : xs.take (i + j) = xs := List.take_of_length_le (by omega)
      rw [hall] at hkv htk
      have hkn : kv < n := by omega
      refine .bnd (subL_lo (by rfl) (by omega) (Nat.le_refl _) hkn) ?_
      have hzl : (zerosL (n - kv) [Value.string ⟨#[]⟩]).length = n - kv := by simp [zerosL]
      have hz1 : allOne (zerosL (n - kv) [Value.string ⟨#[]⟩]) = true := by
       have : zerosL (n - kv) [Value.string ⟨#[]⟩] = (List.replicate (n - kv) (⟨#[]⟩ : ByteArray)).map encS := by rw [List.map_replicate]; rfl
       rw [this]; exact one_strs _
      have ec := wrL_ok (o := 0 + kv * 1) (vs := zerosL (n - kv) [Value.string ⟨#[]⟩]) gH (by rw [hzl, List.length_map]; omega) hz1 (fun e => by rw [e] at hzl; simp at hzl; omega)
      refine .bnd ec (.bnd (subL_hi (by rfl) (by omega)) (.of ⟨⟨hkv, fun i2 x2 hx2 => ?_⟩, fun a ha => ?_, ⟨fun _ => by simp, fun a ha => ?_⟩, ?_⟩))
      ·refine ⟨_, _, _, _, _, rfl, ?_, sset_get _ _ _, ?_⟩
       ·have := cH.nx; have := hlt.1; simp only [AHeap.next_set]; exact Nat.lt_of_lt_of_le hlt.1 cH.nx
       ·unfold splice
        have hi2 : i2 < kv := by rw [hkv]; exact (List.getElem?_eq_some_iff.1 hx2).1
        show (List.take (0 + kv * 1) (cs.map encS) ++ _ ++ _)[0 + i2]? = _
        rw [List.append_assoc, List.getElem?_append_left (by simp; omega), Nat.zero_add, Nat.zero_add, Nat.mul_one, ← List.map_take, htk, List.getElem?_map, hx2]; rfl
      ·cases ha
       have := cH.nx
       exact ⟨hlt.2, by simp only [AHeap.next_set]; exact Nat.lt_of_lt_of_le hlt.1 cH.nx⟩
      ·cases ha
       refine ⟨_, _, sset_get _ _ _, ?_⟩
       rw [length_splice (by rw [hzl, List.length_map]; omega), List.length_map]
       show 0 + kv * 1 ≤ _
       omega
      ·refine Chg.trans (cH.wk fun y _ e => ⟨⟨b, 0, some 2⟩, rfl, e⟩) (Chg.set (.inr ⟨⟨b, 0, some 2⟩, rfl, rfl⟩))
     | succ d2 ih2 =>
      intro j H cs kv hj hjd cH gH hcl hkv hkl htk hdr
      rw [iterK_s]; simp only [slices_Compact_string_string_l1b]
      obtain ⟨u, hu⟩ := isome (l := xs) (i := i + j) (by omega)
      obtain ⟨v, hv⟩ := isome (l := xs) (i := i + j - 1) (by omega)
      have hcu : cs[i + j]? = some u := by
       have := congrArg (·[1]?) hdr
       simp only [List.getElem?_drop] at this
       rw [show i + j - 1 + 1 = i + j by omega] at this
       rw [this]; exact hu
      have hcv : cs[i + (j - 1)]? = some v := by
       have := congrArg (·[0]?) hdr
       simp only [List.getElem?_drop, Nat.add_zero] at this
       rw [show i + (j - 1) = i + j - 1 by omega, this]; exact hv
      have e2 : IntKind.wrap .i64 ((j : Int) - 1) = ((j - 1 : Nat) : Int) := by rw [Gx.w64 _ (by omega)]; omega
      rw [e2]
      have hlast2 : (ddL (xs.take (i + j))).getLast? = some v := by
       rw [ddL_last, List.getLast?_eq_getElem?, List.getElem?_take]
       rw [List.length_take, if_pos (by omega), ← hv]; congr 1; omega
      have hsn2 : ddL (xs.take (i + (j + 1))) = addD (ddL (xs.take (i + j))) u := by rw [← ddL_snoc, ← Nat.add_assoc, List.take_add_one, hu]; rfl
      refine .ifp (by simp; omega) (Gx.Wp.jn fun j35 h35 => .bnd (hix2 j (by omega)) (.bnd (strAt gH hcu) (.bnd (hix2 (j - 1) (by omega)) (.bnd (strAt gH hcv) ?_))))
      rw [beq_ba]
      by_cases c3 : u = v
      ·refine .ifn (by simp [c3]) ?_
       rw [h35]
       dsimp only
       rw [Gx.w1 (by omega)]
       have e3 : ddL (xs.take (i + (j + 1))) = ddL (xs.take (i + j)) := by
        rw [hsn2]; unfold addD; rw [if_pos (by rw [hlast2, c3])]
       refine ih2 (j + 1) H cs kv (by omega) (by omega) cH gH hcl (by rw [e3]; exact hkv) (by omega) (by rw [e3]; exact htk) ?_
       have := congrArg (List.drop 1) hdr
       rw [List.drop_drop, List.drop_drop] at this
       rw [show i + (j + 1) - 1 = i + j - 1 + 1 by omega]; exact this
      ·refine .ifp (by simp [c3]) (.bnd (hix2 j (by omega)) (.bnd (strAt gH hcu) (.bnd (hix kv (by omega)) ?_)))
       have es : st1 ⟨b, 0 + kv, none⟩ (.string u) H = some (H.set b (.cells ((cs.map encS).set (0 + kv) (.string u)) 9 true 0)) := st1_of gH (by rw [List.length_map]; omega) rfl
       refine .bnd es ?_
       rw [h35]
       dsimp only
       rw [Gx.w1 (by omega), Gx.w1 (by omega)]
       have e3 : ddL (xs.take (i + (j + 1))) = ddL (xs.take (i + j)) ++ [u] := by
        rw [hsn2]; unfold addD
        rw [if_neg (by rw [hlast2]; intro e; exact c3 (Option.some.inj e).symm)]
       refine ih2 (j + 1) _ (cs.set kv u) (kv + 1) (by omega) (by omega) (Chg.trans cH (Chg.set (.inr rfl))) ?_ (by rw [List.length_set]; exact hcl) (by rw [e3, List.length_append, ← hkv]; rfl) (by omega) ?_ ?_
       ·rw [sset_get, List.map_set, Nat.zero_add]; rfl
       ·rw [e3, ← htk, List.take_add_one, List.getElem?_set_self (by omega), List.take_set_of_le (Nat.le_refl _)]; rfl
       ·rw [List.drop_set_of_lt (by omega)]
        have := congrArg (List.drop 1) hdr
        rw [List.drop_drop, List.drop_drop] at this
        rw [show i + (j + 1) - 1 = i + j - 1 + 1 by omega]; exact this
    have := fin (n - i - 1) 1 h xs i (Nat.le_refl _) (by omega) (.refl _ _) gb hn.symm (by rw [hd0, List.length_take]; omega) (by omega) (by rw [hd0]) rfl
    exact this
 exact loop (n - 1) 1 (Nat.le_refl _) (by omega) (by
  cases hx : xs with
  | nil => rfl
  | cons x l => rfl)
end
end Gc
namespace Gc
open Go Gx Go.RowKit Go.Maps
def packsL (F : Nat → List It) : List ByteArray := ddL (sortB ((allF F).map (·.2.1)))
section
variable {k base tb : Nat} {h : AHeap} {sl : Nat → Slc} {F : Nat → List It} {s t : Slc} {xs ys : List ByteArray}
theorem packs_spec (hk : 300 ≤ k) (D : CallF) (T : Tab base h tb sl F) (hN : cntTo F 256 ≤ 1000000000) (hkN : cntTo F 256 + 10 ≤ k) :
  Gx.Wp (lookup_Table_Packs k D (some ⟨tb, 0, none⟩) h) fun z => Row encS z.2 z.1 (packsL F) ∧ (∀ a, z.1.a = some a → h.next ≤ a.block ∧ a.block < z.2.next) ∧ WR 1 z.2 z.1 ∧ Keeps h z.2 := by
 simp only [lookup_Table_Packs]
 refine Gx.Wp.jn fun j3 h3 => .call (all_spec hk D T hN) fun r ⟨A, kr⟩ => ?_
 unfold packsL
 obtain ⟨xs, exs⟩ : ∃ xs, xs = allF F := ⟨_, rfl⟩
 have hxl : xs.length = cntTo F 256 := by rw [exs]; exact flatTo_len F 256
 rw [← exs] at A ⊢
 have R := A.row itC_len
 obtain ⟨ws, ews⟩ : ∃ ws, ws = xs.map (·.2.1) := ⟨_, rfl⟩
 have hwl : ws.length = xs.length := by rw [ews, List.length_map]
 rw [← ews]
 unfold lookup_Table_Packs_l0
 obtain ⟨bot, eb⟩ := iterK_of (fun _ _ _ _ _ => none) (lookup_Table_Packs_l0b k D j3) (show xs.length + 1 ≤ k by omega)
 rw [eb]
 have nr := kr.nx
 have loop : ∀ (d i : Nat) (o : Slc) (H : AHeap), i + d = xs.length → Keeps r.2 H → Acc encS 9 r.2.next H o (ws.take i) → Gx.Wp (iterK bot (d + 1) (lookup_Table_Packs_l0b k D j3) o r.1 (r.1.len : Int) (i : Int) H) fun z => Row encS z.2 z.1 (ddL (sortB ws)) ∧ (∀ a, z.1.a = some a → h.next ≤ a.block ∧ a.block < z.2.next) ∧ WR 1 z.2 z.1 ∧ Keeps h z.2 := fun d => by
  induction d with
  | zero =>
   intro i o H hd kp Ao
   rw [iterK_s]; simp only [lookup_Table_Packs_l0b]
   refine .ifn (by rw [R.len]; simp; omega) ?_
   rw [h3]
   rw [List.take_of_length_le (by omega)] at Ao
   obtain ⟨h4, s1, A4, c4⟩ := sort_acc Ao (by omega)
   have hsl := sortB_len ws
   refine .bnd s1 (.call (compact_spec D A4 (by omega) (by omega)) fun z ⟨z1, z2, z4, z3⟩ => .of ⟨z1, fun a ha => ⟨Nat.le_trans nr (z2 a ha).1, (z2 a ha).2⟩, z4, ?_⟩)
   have k4 : Keeps r.2 h4 := kp.keepsS c4 fun y ⟨a, ha, e⟩ => by rw [e]; exact (Ao.lt a ha).2
   have k5 : Keeps r.2 z.2 := k4.keepsS z3 fun y ⟨a, ha, e⟩ => by rw [e]; exact (A4.lt a ha).2
   exact kr.trans k5
  | succ d ih =>
   intro i o H hd kp Ao
   rw [iterK_s]; simp only [lookup_Table_Packs_l0b]
   obtain ⟨x, hx⟩ := isome (l := xs) (i := i) (by omega)
   obtain ⟨q, b1, b2, _⟩ := (R.keeps kp).ld itC_len (by decide) hx
   have et : ws.take (i + 1) = ws.take i ++ [x.2.1] := by rw [List.take_add_one, ews, List.getElem?_map, hx]; rfl
   refine .ifp (by rw [R.len]; simp; omega) (.bnd b1 (.bnd b2 (.bnd (decI6 x) (Wp.newE fun H1 e1 k1 n1 g1 => Wp.stL g1 rfl rfl rfl (by decide) fun H2 c2 n2 g2 => ?_))))
   have gx : H2.get H.next = some (.cells (itC x) 57 true 0) := g2
   have nk := kp.nx
   have k2 : Keeps r.2 H2 := (kp.trans k1).keepsS c2 fun y hy => by subst hy; omega
   have k2' : Keeps H H2 := k1.keepsS c2 fun y hy => by subst hy; omega
   have A2 := Ao.keeps k2'
   have lx : ldS ⟨H.next, 1, none⟩ H2 = some x.2.1 := by simp [ldS, AHeap.rd1, gx, itC, decS]
   refine .bnd lx (Wp.newE fun H3 e3 k3 n3 g3 => ?_)
   have nk2 := k2.nx
   obtain ⟨s', h9, a1, a2, A', c9, d9⟩ := Acc.pushK A2 (fun _ => rfl) x.2.1 (bytes := 16) e3 (by rw [List.length_take]; omega) (by decide) nk2
   refine .bnd a1 (.bnd a2 ?_)
   rw [Gx.w1 (by omega)]
   refine ih (i + 1) s' h9 (by omega) (k2.keepsS c9 fun y ⟨a, ha, e⟩ => by rw [e]; exact (A2.lt a ha).2) ?_
   rw [et]; exact A'
 exact loop xs.length 0 ⟨none, 0, 0⟩ r.2 (by omega) (.refl _ _) (Acc.nil _ _ _ _)
end
theorem mem_allF {F : Nat → List It} {x : It} : x ∈ allF F ↔ ∃ i, i < 256 ∧ x ∈ F i := by
 unfold allF flatTo
 rw [List.mem_flatMap]
 simp
theorem packsL_rises (F : Nat → List It) : (packsL F).Pairwise ltB := ddL_rises _ (sortB_le _)
theorem packsL_len (F : Nat → List It) : (packsL F).length ≤ cntTo F 256 := by
 unfold packsL
 refine Nat.le_trans (ddL_len _) ?_
 rw [sortB_len, List.length_map]
 exact Nat.le_of_eq (flatTo_len F 256)
end Gc
namespace Gc
open Go Gx Go.RowKit Go.Maps
theorem addF_mem {F : Nat → List It} {x y : It} {i : Nat} : y ∈ addF F x i ↔ (y = x ∧ i = idx x.1) ∨ y ∈ F i := by
 unfold addF upd
 split
 ·rename_i e
  subst e
  rw [put_mem]
  constructor
  ·rintro (rfl | h)
   ·exact .inl ⟨rfl, rfl⟩
   ·exact .inr h
  ·rintro (⟨rfl, _⟩ | h)
   ·exact .inl rfl
   ·exact .inr h
 ·rename_i e
  constructor
  ·exact .inr
  ·rintro (⟨_, e2⟩ | h)
   ·exact absurd e2 e
   ·exact h
theorem addL_mem : ∀ {xs : List It} {F : Nat → List It} {y : It} {i : Nat}, y ∈ addL F xs i ↔ (y ∈ xs ∧ i = idx y.1) ∨ y ∈ F i
 | [], F, y, i => by simp [addL]
 | x :: xs, F, y, i => by
  show y ∈ addL (addF F x) xs i ↔ _
  rw [addL_mem, addF_mem, List.mem_cons]
  constructor
  ·rintro (⟨h, e⟩ | ⟨rfl, e⟩ | h)
   ·exact .inl ⟨.inr h, e⟩
   ·exact .inl ⟨.inl rfl, e⟩
   ·exact .inr h
  ·rintro (⟨rfl | h, e⟩ | h)
   ·exact .inr (.inl ⟨rfl, e⟩)
   ·exact .inl ⟨h, e⟩
   ·exact .inr (.inr h)
def InT (F : Nat → List It) : Prop := ∀ i x, i < 256 → x ∈ F i → idx x.1 = i
theorem addL_in {xs : List It} {F : Nat → List It} (h : InT F) : InT (addL F xs) := fun i x hi hx => by
 rcases addL_mem.1 hx with ⟨_, e⟩ | g
 ·exact e.symm
 ·exact h i x hi g
theorem dropF_in {F : Nat → List It} (h : InT F) (p : ByteArray) : InT (dropF F p) := fun i x hi hx => h i x hi (List.mem_filter.1 hx).1
theorem idx_less {a b : ByteArray} (h : idx a < idx b) : bl a < bl b := by
 unfold idx at h
 cases ha : bl a with
 | nil =>
  cases hb : bl b with
  | nil => rw [ha, hb] at h; simp at h
  | cons y ys => exact List.nil_lt_cons _ _
 | cons x xs =>
  cases hb : bl b with
  | nil => rw [ha, hb] at h; simp at h
  | cons y ys =>
   rw [ha, hb] at h
   exact List.cons_lt_cons_iff.2 (.inl h)
theorem idx_lessI {x y : It} (h : idx x.1 < idx y.1) : lessI x y = true := by
 rw [lessI_iff]
 exact .inl (idx_less h)
theorem flatTo_rises {F : Nat → List It} (hr : RisesT F) (hin : InT F) : ∀ n, n ≤ 256 → Rises (flatTo F n)
 | 0, _ => List.Pairwise.nil
 | n + 1, h => by
  rw [flatTo_s]
  unfold Rises
  rw [List.pairwise_append]
  refine ⟨flatTo_rises hr hin n (by omega), hr n (by omega), fun a ha b hb => idx_lessI ?_⟩
  unfold flatTo at ha
  obtain ⟨i, hi, ha⟩ := List.mem_flatMap.1 ha
  have hi' := List.mem_range.1 hi
  rw [hin i a (by omega) ha, hin n b (by omega) hb]
  exact hi'
theorem allF_rises {F : Nat → List It} (hr : RisesT F) (hin : InT F) : Rises (allF F) := flatTo_rises hr hin 256 (Nat.le_refl _)
theorem flatTo_ext {F G : Nat → List It} : ∀ n, (∀ i, i < n → F i = G i) → flatTo F n = flatTo G n
 | 0, _ => rfl
 | n + 1, h => by rw [flatTo_s, flatTo_s, flatTo_ext n fun i hi => h i (by omega), h n (by omega)]
theorem cntTo_ext {F G : Nat → List It} (n : Nat) (h : ∀ i, i < n → F i = G i) : cntTo F n = cntTo G n := by rw [← flatTo_len, ← flatTo_len, flatTo_ext n h]
theorem cnt_nil {F : Nat → List It} (h : ∀ i, i < 256 → F i = []) : cntTo F 256 = 0 := by
 rw [cntTo_ext (G := fun _ => []) 256 h]
 have : ∀ n, cntTo (fun _ => []) n = 0 := fun n => by
  induction n with
  | zero => rfl
  | succ n ih => rw [cntTo_s, ih]; rfl
 exact this 256
theorem allF_nil {F : Nat → List It} (h : ∀ i, i < 256 → F i = []) : allF F = [] := List.length_eq_zero_iff.1 (by unfold allF; rw [flatTo_len]; exact cnt_nil h)
end Gc
namespace Gc
open Go Gx Go.RowKit Go.Maps
section
variable {k base b0 tb tf : Nat} {h : AHeap} {sl : Nat → Slc} {F : Nat → List It} {s : Slc} {xs : List It}
theorem clone_spec (D : CallF) (A : SlotR base h tb s xs) (hb : b0 ≤ h.next) (htf : tf < h.next) (hl : xs.length ≤ 1000000000) :
  Gx.Wp (slices_Clone_api_Item_api_Item k D s h) fun z => SlotR b0 z.2 tf z.1 xs ∧ Keeps h z.2 ∧ ∀ a, z.1.a = some a → h.next ≤ a.block := by
 simp only [slices_Clone_api_Item_api_Item]
 rcases A with ⟨rfl, rfl⟩ | ⟨b, sp, cap, R, A⟩
 ·exact .ifp rfl (.of ⟨.inl ⟨rfl, rfl⟩, .refl _ _, fun a ha => by cases ha⟩)
 ·have hs : s.a.isNone = false := by rw [A.s]; rfl
  refine .ifn (by rw [hs]; decide) (Wp.newE fun H e1 k1 n1 g1 => ?_)
  have AS : SlotR base H tb s xs := SlotR.keeps (.inr ⟨b, sp, cap, R, A⟩) k1
  refine .bnd AS.rdS ?_
  have hlen : s.len = xs.length := AS.len
  rw [hlen]
  by_cases c : xs = []
  ·subst c
   have ea : appendA 6 64 57 H ⟨some ⟨h.next, 0, some 0⟩, 0, 0⟩ (([] : List It).flatMap itC) ([] : List It).length = some (⟨some ⟨h.next, 0, some 0⟩, 0, 0⟩, H) := rfl
   refine .bnd ea (.of ⟨.inr ⟨h.next, some 0, 0, [], rfl, g1, rfl, hb, by show h.next < H.next; omega, by omega, Nat.le_refl _, Nat.le_refl _, .inr ⟨rfl, rfl⟩⟩, k1, fun a ha => by cases ha; exact Nat.le_refl _⟩)
  ·have hp : 0 < xs.length := List.length_pos_iff.2 c
   have ea : appendA 6 64 57 H ⟨some ⟨h.next, 0, some 0⟩, 0, 0⟩ (xs.flatMap itC) xs.length = some (⟨some ⟨H.next, 0, some 7⟩, xs.length, xs.length⟩, H.new (.cells (xs.flatMap itC) 57 true 0)) := by
    unfold appendA
    rw [if_neg (by show ¬ 0 + xs.length ≤ 0; omega), if_pos (by show 2 * (0 + xs.length) * 64 ≤ 281474976710656 ∧ 1 ≤ 64; omega)]
    show (H.rdL h.next 0 (0 * 6)).bind _ = _
    rw [show H.rdL h.next 0 (0 * 6) = some [] from rfl]
    show some _ = some _
    simp only [Nat.zero_add, List.nil_append]
   refine .bnd ea (.of ⟨.inr ⟨H.next, some 7, xs.length, [], rfl, by simp, rfl, by omega, by show H.next < H.next + 1; omega, by omega, Nat.le_refl _, by simp, .inl ⟨rfl, by omega⟩⟩, k1.trans (Keeps.new H _), fun a ha => by cases ha; show h.next ≤ H.next; omega⟩)
theorem fork_spec (hk : 300 ≤ k) (D : CallF) (T : Tab base h tb sl F) {N : Nat} (hm : MaxT F N) (hN : N ≤ 1000000000) :
  Gx.Wp (lookup_Table_Fork k D (some ⟨tb, 0, none⟩) h) fun z => ∃ tf slf, z.1 = some ⟨tf, 0, none⟩ ∧ Tab h.next z.2 tf slf F ∧ Keeps h z.2 := by
 simp only [lookup_Table_Fork]
 obtain ⟨h1, a1, k1, T1⟩ := new_spec k D h
 refine .bnd a1 (Gx.Wp.jn fun j4 h4 => .bnd rfl (.bnd (tab_all (T.keeps k1)) (.bnd (decA_tab sl) ?_)))
 unfold lookup_Table_Fork_l0
 obtain ⟨bot, eb⟩ := iterK_of (fun _ _ _ _ => none) (lookup_Table_Fork_l0b k D j4) (show 256 + 1 ≤ k by omega)
 rw [eb]
 have loop : ∀ (d i : Nat) (H : AHeap) (sl' : Nat → Slc), i + d = 256 → Keeps h H → (∀ j, i ≤ j → sl' j = ⟨none, 0, 0⟩) → Tab h.next H h.next sl' (fun j => if j < i then F j else []) →
   Gx.Wp (iterK bot (d + 1) (lookup_Table_Fork_l0b k D j4) (some ⟨h.next, 0, none⟩) (tabC sl) (i : Int) H) fun z => ∃ tf slf, z.1 = some ⟨tf, 0, none⟩ ∧ Tab h.next z.2 tf slf F ∧ Keeps h z.2 := fun d => by
  induction d with
  | zero =>
   intro i H sl' hd kp hsl T'
   obtain rfl : i = 256 := by omega
   rw [iterK_s]; simp only [lookup_Table_Fork_l0b]
   refine .ifn (by decide) ?_
   rw [h4]
   exact .of ⟨_, sl', rfl, T'.ext fun i hi => by rw [if_pos hi], kp⟩
  | succ d ih =>
   intro i H sl' hd kp hsl T'
   rw [iterK_s]; simp only [lookup_Table_Fork_l0b]
   have S := (T.keeps kp).slot i (by omega)
   have nk := kp.nx
   have hlt := T'.lt
   refine .ifp (by simp; omega) (.ifp (by omega) (.bnd (a := .slice (sl i).a (sl i).len (sl i).cap) ?_ (.bnd rfl (.call (clone_spec D S (b0 := h.next) (tf := h.next) nk hlt (Nat.le_trans (hm i (by omega)) hN)) fun r ⟨A, kr, o⟩ => .bnd rfl (.bnd (sidxA0 (by omega)) ?_)))))
   ·rw [Int.toNat_natCast, Nat.mul_one]; exact tabC_get _ (by omega)
   ·have hsi := hsl i (Nat.le_refl _)
    obtain ⟨h2, s1, T2, c2, o2⟩ := T'.slotT (i := i) (by omega) (Chg.keeps kr) A fun a ha => .inl (o a ha)
    have e1 : (⟨h.next, 0 + 0 + i, none⟩ : Addr) = ⟨h.next, i, none⟩ := by simp
    rw [e1]
    refine .bnd s1 (.bnd (decA_tab sl) ?_)
    rw [Gx.w1 (by omega)]
    refine ih (i + 1) h2 _ (by omega) (kp.keepsS c2 fun y hy => (T'.own hy).1) (fun j hj => ?_) (T2.ext fun j hj => ?_)
    ·unfold upd; rw [if_neg (by omega)]; exact hsl j (by omega)
    ·unfold upd
     by_cases e : j = i
     ·rw [if_pos e, if_pos (by omega), e]
     ·rw [if_neg e]
      by_cases e2 : j < i
      ·dsimp only; rw [if_pos e2, if_pos (by omega)]
      ·dsimp only; rw [if_neg e2, if_neg (by omega)]
 exact loop 256 0 h1 _ (by omega) k1 (fun j _ => rfl) (T1.ext fun j _ => by simp)
end
end Gc
namespace Gc
open Go Gx Go.RowKit Go.Maps
structure LT (base : Nat) (h : AHeap) (rb : Nat) (s : Slc) (xs : List It) : Prop where
 blk : h.get rb = some (.cells [.slice s.a s.len s.cap] 77 true 0)
 lt : rb < h.next
 ge : base ≤ rb
 acc : AccW 6 itC 57 base h s xs
 ne : ∀ a, s.a = some a → a.block ≠ rb
section
variable {k base rb : Nat} {h h' : AHeap} {s : Slc} {xs ys : List It}
def LOwn (rb : Nat) (s : Slc) (y : Nat) : Prop := y = rb ∨ ofS s y
theorem LT.own (T : LT base h rb s xs) {y : Nat} (hy : LOwn rb s y) : base ≤ y ∧ y < h.next := by
 rcases hy with rfl | ⟨a, ha, rfl⟩
 ·exact ⟨T.ge, T.lt⟩
 ·exact ⟨(T.acc.lt a ha).2, (T.acc.lt a ha).1⟩
theorem LT.chg {S : Nat → Prop} (T : LT base h rb s xs) (c : Chg S h h') (hs : ∀ y, LOwn rb s y → ¬ S y) : LT base h' rb s xs :=
 ⟨(c.oth rb T.lt (hs rb (.inl rfl))).trans T.blk, Nat.lt_of_lt_of_le T.lt c.nx, T.ge, T.acc.chg c fun a ha => hs _ (.inr ⟨a, ha, rfl⟩), T.ne⟩
theorem LT.keeps (T : LT base h rb s xs) (c : Keeps h h') : LT base h' rb s xs := T.chg c fun _ _ f => f
theorem LT.ld (T : LT base h rb s xs) : ldL ⟨rb, 0 + 0, none⟩ h = some s := sldL_at T.blk rfl
theorem LT.row (T : LT base h rb s xs) : RowW 6 itC h s xs := T.acc.row itC_len
theorem app0 {H : AHeap} {b n m : Nat} {sp : Option Nat} (hle : n ≤ m) : appendA 6 64 57 H ⟨some ⟨b, 0, sp⟩, n, m⟩ [] 0 = some (⟨some ⟨b, 0, sp⟩, n, m⟩, H) := by
 simp [appendA, hle]
theorem appendR {H : AHeap} {o : Slc} {os : List It} (A : AccW 6 itC 57 base H o os) (ys : List It) (hb : base ≤ H.next) (hl : os.length + ys.length ≤ 1000000000) :
  ∃ s' h', appendA 6 64 57 H o (ys.flatMap itC) ys.length = some (s', h') ∧ AccW 6 itC 57 base h' s' (os ++ ys) ∧ Chg (ofS o) H h' ∧ ∀ a, s'.a = some a → H.next ≤ a.block ∨ ofS o a.block := by
 by_cases c : ys = []
 ·subst c
  rw [List.append_nil]
  rcases A.st with ⟨rfl, rfl⟩ | ⟨b, rfl, h2, h3⟩
  ·exact ⟨⟨none, 0, 0⟩, H, rfl, A, .refl _ _, fun a ha => by cases ha⟩
  ·refine ⟨⟨some ⟨b, 0, some 7⟩, os.length, os.length⟩, H, ?_, A, .refl _ _, fun a ha => .inr ⟨a, ha, rfl⟩⟩
   exact app0 (Nat.le_refl _)
 ·have hp : 0 < ys.length := List.length_pos_iff.2 c
  rcases A.st with ⟨rfl, rfl⟩ | ⟨b, rfl, h2, h3⟩
  ·refine ⟨⟨some ⟨H.next, 0, some 7⟩, ys.length, ys.length⟩, H.new (.cells (ys.flatMap itC) 57 true 0), ?_, ⟨.inr ⟨H.next, rfl, by simp, c⟩, fun a ha => ?_⟩, Chg.keeps (Keeps.new H _), fun a ha => ?_⟩
   ·unfold appendA
    rw [if_neg (by show ¬ 0 + ys.length ≤ 0; omega), if_pos (by show 2 * (0 + ys.length) * 64 ≤ 281474976710656 ∧ 1 ≤ 64; simp at hl; omega)]
   ·cases ha; exact ⟨Nat.lt_succ_self _, hb⟩
   ·cases ha; exact .inl (Nat.le_refl _)
  ·have hlt := A.lt ⟨b, 0, some 7⟩ rfl
   have hop : 0 < os.length := List.length_pos_iff.2 h3
   refine ⟨⟨some ⟨H.next, 0, some 7⟩, (os ++ ys).length, (os ++ ys).length⟩, (H.kill b).new (.cells ((os ++ ys).flatMap itC) 57 true 0), ?_, ⟨.inr ⟨H.next, rfl, by simp, by simp [c]⟩, fun a ha => ?_⟩, Chg.kill_new (.inr ⟨⟨b, 0, some 7⟩, rfl, rfl⟩), fun a ha => ?_⟩
   ·unfold appendA
    rw [if_neg (by show ¬ os.length + ys.length ≤ os.length; omega), if_pos (by show 2 * (os.length + ys.length) * 64 ≤ 281474976710656 ∧ 1 ≤ 64; omega)]
    simp only [h2]
    rw [if_pos ⟨by show os.length ≠ 0; omega, trivial, by rw [flat_len]; exact Nat.le_refl _, Nat.zero_le _, trivial, trivial, flat_one ys⟩]
    rw [show os.length * 6 = (os.flatMap itC).length from (flat_len os).symm, List.take_length, List.length_append, List.flatMap_append]
   ·cases ha; exact ⟨Nat.lt_succ_self _, hb⟩
   ·cases ha; exact .inl (Nat.le_refl _)
theorem takeR {H : AHeap} (A : AccW 6 itC 57 base H s xs) {p : Nat} (hp : p ≤ xs.length) : ∃ t, Gx.subL 6 s none (some (p : Int)) none = some t ∧ t.len = p ∧ Gx.rdS 6 t H = some ((xs.take p).flatMap itC) := by
 rcases A.st with ⟨rfl, rfl⟩ | ⟨b, rfl, h2, h3⟩
 ·obtain rfl : p = 0 := by simpa using hp
  exact ⟨⟨none, 0, 0⟩, rfl, rfl, rfl⟩
 ·refine ⟨_, subL_hi rfl hp, rfl, ?_⟩
  simp only [Gx.rdS]
  rw [rdL_ok h2 (by rw [flat_len]; omega), List.drop_zero, flat_take]
theorem dropR {H : AHeap} (A : AccW 6 itC 57 base H s xs) {p : Nat} (hp : p ≤ xs.length) : ∃ t, Gx.subL 6 s (some (p : Int)) none none = some t ∧ t.len = xs.length - p ∧ Gx.rdS 6 t H = some ((xs.drop p).flatMap itC) := by
 rcases A.st with ⟨rfl, rfl⟩ | ⟨b, rfl, h2, h3⟩
 ·obtain rfl : p = 0 := by simpa using hp
  exact ⟨⟨none, 0, 0⟩, rfl, rfl, rfl⟩
 ·by_cases c : p = xs.length
  ·subst c
   refine ⟨⟨some ⟨b, 0, some 7⟩, 0, 0⟩, ?_, by show 0 = _; omega, ?_⟩
   ·simp only [Gx.subL, Option.getD_none, Option.getD_some]
    rw [if_pos (by omega), if_pos (by rfl)]
    simp
   ·rw [List.drop_length]
    rfl
  ·refine ⟨_, subL_lo rfl hp (Nat.le_refl _) (by omega), rfl, ?_⟩
   simp only [Gx.rdS]
   rw [rdL_ok h2 (by rw [flat_len, Nat.zero_add, ← Nat.add_mul]; exact Nat.mul_le_mul_right _ (by omega)), Nat.zero_add, flat_drop, List.take_of_length_le (by rw [flat_len, List.length_drop]; exact Nat.le_refl _)]
end
end Gc
namespace Gc
open Go Gx Go.RowKit Go.Maps
section
variable {k base rb : Nat} {h h' : AHeap} {s : Slc} {xs ys : List It}
theorem put_spec (_hk : 300 ≤ k) (D : CallF) (T : LT base h rb s xs) (hr : Rises xs) (hl : xs.length + 10 ≤ k) (hN : xs.length ≤ 1000000) (x : It) :
  Gx.Wp (ref15_Table_put k D (some ⟨rb, 0, none⟩) x h) fun z => ∃ s', LT base z.2 rb s' (putI x xs) ∧ Chg (LOwn rb s) h z.2 ∧ ∀ y, LOwn rb s' y → h.next ≤ y ∨ LOwn rb s y := by
 simp only [ref15_Table_put]
 refine Wp.newE fun H1 e1 k1 n1 g1 => Gx.Wp.jn fun j6 h6 => ?_
 unfold ref15_Table_put_l0
 obtain ⟨bot, eb⟩ := iterK_of (fun _ _ _ _ => none) (ref15_Table_put_l0b k D j6) (show posI x xs + 1 ≤ k by have := posI_le x xs; omega)
 rw [eb]
 have gx : H1.get h.next = some (.cells (itC x) 57 true 0) := g1
 have loop : ∀ (d i : Nat) (H : AHeap), i + d = posI x xs → Keeps h H → H.get h.next = some (.cells (itC x) 57 true 0) → h.next < H.next → Gx.Wp (iterK bot (d + 1) (ref15_Table_put_l0b k D j6) (some ⟨rb, 0, none⟩) (some ⟨h.next, 0, none⟩) (i : Int) H) fun z => ∃ s', LT base z.2 rb s' (putI x xs) ∧ Chg (LOwn rb s) h z.2 ∧ ∀ y, LOwn rb s' y → h.next ≤ y ∨ LOwn rb s y := fun d => by
  induction d with
  | succ d ih =>
   intro i H hd kp gH hlt
   rw [iterK_s]; simp only [ref15_Table_put_l0b]
   have TH := T.keeps kp
   have hp := posI_le x xs
   obtain ⟨y, hy⟩ := isome (l := xs) (i := i) (by omega)
   obtain ⟨q, b1, b2, _⟩ := TH.row.ld itC_len (by decide) hy
   refine Gx.Wp.jn fun j52 h52 => .bnd rfl (.bnd TH.ld (.ifp (by rw [TH.row.len]; simp; omega) (.bnd rfl (.bnd TH.ld (.bnd b1 (.bnd b2 (.bnd (decI6 y) (.bnd rfl (.bnd (sldA_at gH rfl) (.bnd (decI6 x) (.call (rless_spec k D y x H) fun r ⟨q1, q2⟩ => ?_)))))))))))
   rw [q1, pos_ahead (by omega) hy, h52]
   refine .ifp rfl ?_
   rw [Gx.w1 (by omega)]
   have := q2.nx
   exact ih (i + 1) r.2 (by omega) (kp.trans q2) (q2.got hlt gH) (by omega)
  | zero =>
   intro i H hd kp gH hlt
   rw [iterK_s]; simp only [ref15_Table_put_l0b]
   have TH := T.keeps kp
   have hp := posI_le x xs
   refine Gx.Wp.jn fun j52 h52 => .bnd rfl (.bnd TH.ld ?_)
   have fin : ∀ H2, Keeps h H2 → H2.get h.next = some (.cells (itC x) 57 true 0) → h.next < H2.next → Gx.Wp (j6 (some ⟨rb, 0, none⟩) (some ⟨h.next, 0, none⟩) (i : Int) H2) fun z => ∃ s', LT base z.2 rb s' (putI x xs) ∧ Chg (LOwn rb s) h z.2 ∧ ∀ y, LOwn rb s' y → h.next ≤ y ∨ LOwn rb s y := fun H2 k2 g2 hl2 => by
    rw [h6]
    have T2 := T.keeps k2
    refine Gx.Wp.jn fun j12 h12 => .bnd rfl (.bnd T2.ld ?_)
    have no : ¬ x ∈ xs → Gx.Wp (j12 (some ⟨rb, 0, none⟩) (some ⟨h.next, 0, none⟩) (i : Int) false H2) fun z => ∃ s', LT base z.2 rb s' (putI x xs) ∧ Chg (LOwn rb s) h z.2 ∧ ∀ y, LOwn rb s' y → h.next ≤ y ∨ LOwn rb s y := fun hx => by
     rw [h12]
     have hle : i ≤ xs.length := by omega
     obtain ⟨t1, u1, u2, u3⟩ := takeR T2.acc hle
     have hbase : base ≤ h.next := by have := T.ge; have := T.lt; omega
     have hb2 : base ≤ H2.next := by omega
     obtain ⟨o1, h3, a1, A1, c1, d1⟩ := appendR (AccW.nil 6 itC 57 base H2) (xs.take i) hb2 (by simp; omega)
     have c1' : Keeps H2 h3 := c1.wk fun y _ ⟨a, ha, _⟩ => by cases ha
     have d1' : ∀ a, o1.a = some a → H2.next ≤ a.block := fun a ha => by
      rcases d1 a ha with q | ⟨b, hb, _⟩
      ·exact q
      ·cases hb
     have elen : (xs.take i).length = i := by rw [List.length_take]; omega
     rw [elen] at a1
     have k3 := k2.trans c1'
     have g3 := c1'.got hl2 g2
     have nx3 := c1'.nx
     refine .ifn (by decide) (.bnd rfl (.bnd T2.ld (.bnd u1 (.bnd u3 (.bnd (by rw [u2]; exact a1) (.bnd rfl (.bnd (sldA_at g3 rfl) (.bnd (decI6 x) (Wp.newE fun H4 e4 k4 n4 g4 => ?_)))))))))
     have A1' : AccW 6 itC 57 base h3 o1 (xs.take i) := by simpa using A1
     obtain ⟨o2, h5, a2, A2, c2, d2⟩ := A1'.push itC_len itC_one x (bytes := 64) (by decide) (by omega) (by omega)
     have eH : H4 = h3.new (.cells (itC x) 57 true 0) := e4
     rw [eH]
     have k5 : Keeps H2 h5 := c1'.keepsS c2 fun y ⟨a, ha, e⟩ => by rw [e]; exact d1' a ha
     have T5 := T2.keeps k5
     have nx5 := k5.nx
     obtain ⟨t2, v1, v2, v3⟩ := dropR T5.acc hle
     refine .bnd (rdS_oneW itC_len x 57) (.bnd a2 (.bnd rfl (.bnd T5.ld (.bnd v1 (.bnd v3 ?_)))))
     obtain ⟨o3, h7, a3, A3, c3, d3⟩ := appendR A2 (xs.drop i) (by omega) (by rw [List.length_append, elen, List.length_drop]; simp; omega)
     have c5nx := c2.nx
     have d2' : ∀ a, o2.a = some a → H2.next ≤ a.block := fun a ha => by have := d2 a ha; omega
     rw [List.length_drop] at a3
     refine .bnd (by rw [v2]; exact a3) (.bnd rfl ?_)
     have k7 : Keeps H2 h7 := k5.keepsS c3 fun y ⟨a, ha, e⟩ => by rw [e]; exact d2' a ha
     have T7 := T2.keeps k7
     refine .bnd (st1_of T7.blk (by simp) rfl) (.of ?_)
     have d3' : ∀ a, o3.a = some a → H2.next ≤ a.block := fun a ha => by
      rcases d3 a ha with q | ⟨b, hb, e⟩
      ·omega
      ·rw [e]; exact d2' b hb
     have hrb2 := T2.lt
     refine ⟨o3, ⟨by simp, by simpa using T7.lt, T.ge, ?_, fun a ha e => ?_⟩, ?_, ?_⟩
     ·have ep : putI x xs = xs.take i ++ [x] ++ xs.drop i := by
       unfold putI
       obtain rfl : i = posI x xs := by omega
       rw [if_neg hx, take_pos, drop_pos]; simp
      rw [ep]
      exact A3.chg (S := (· = rb)) (Chg.set (.inr rfl)) fun a ha e => by have := d3' a ha; omega
     ·have := d3' a ha; omega
     ·refine Chg.beh (T := (· = rb)) (Chg.keeps (k2.trans k7)) (Chg.set (.inr rfl)) fun y _ e => .inl e
     ·have := k2.nx
      rintro y (rfl | ⟨a, ha, rfl⟩)
      ·exact .inr (.inl rfl)
      ·left; have := d3' a ha; omega
    by_cases c : posI x xs < xs.length
    ·obtain ⟨y, hy⟩ := isome (l := xs) (i := i) (by omega)
     obtain ⟨q, b1, b2, _⟩ := T2.row.ld itC_len (by decide) hy
     refine .ifp (by rw [T2.row.len]; simp; omega) (.bnd rfl (.bnd T2.ld (.bnd b1 (.bnd b2 (.bnd (decI6 y) (.bnd rfl (.bnd (sldA_at g2 rfl) (.bnd (decI6 x) ?_))))))))
     rw [eqI]
     obtain rfl : i = posI x xs := by omega
     by_cases e : y = x
     ·have hm : x ∈ xs := by rw [← e]; exact mem_of hy
      rw [h12]
      refine .ifp (by simp [e]) (.of ⟨s, ?_, Chg.keeps k2, fun y hy => .inr hy⟩)
      unfold putI; rw [if_pos hm]; exact T2
     ·have hm : ¬ x ∈ xs := fun q => by
       obtain ⟨y2, g1, g2⟩ := (pos_found hr).2 q
       rw [hy] at g1; cases g1
       exact e (ord_zero.1 g2)
      simp only [e, decide_false]
      exact no hm
    ·refine .ifn (by rw [T2.row.len]; simp; omega) (no fun q => ?_)
     obtain ⟨y2, g1, _⟩ := (pos_found hr).2 q
     rw [List.getElem?_eq_none (by omega)] at g1; cases g1
   by_cases c : i < xs.length
   ·obtain ⟨y, hy⟩ := isome (l := xs) (i := i) c
    obtain ⟨q, b1, b2, _⟩ := TH.row.ld itC_len (by decide) hy
    refine .ifp (by rw [TH.row.len]; simp; omega) (.bnd rfl (.bnd TH.ld (.bnd b1 (.bnd b2 (.bnd (decI6 y) (.bnd rfl (.bnd (sldA_at gH rfl) (.bnd (decI6 x) (.call (rless_spec k D y x H) fun r ⟨q1, q2⟩ => ?_)))))))))
    rw [q1, pos_behind hr (by omega) hy, h52]
    have := q2.nx
    exact .ifn (by decide) (fin r.2 (kp.trans q2) (q2.got hlt gH) (by omega))
   ·refine .ifn (by rw [TH.row.len]; simp; omega) ?_
    rw [h52]
    exact .ifn (by decide) (fin H kp gH hlt)
 exact loop (posI x xs) 0 H1 (by omega) k1 gx (by omega)
end
end Gc
namespace Gc
open Go Gx Go.RowKit Go.Maps
theorem chk_bad {x : It} (h : ¬ okI x) : chkI x = 1 := by unfold chkI; rw [if_neg h]
section
variable {k base tb rb : Nat} {h h' : AHeap} {sl : Nat → Slc} {F : Nat → List It} {s t : Slc} {xs ys : List It}
theorem addBad_spec (R : RowW 6 itC h t ys) (hky : ys.length + 10 ≤ k) (hN : ys.length ≤ 1000000) (hbad : ∃ x ∈ ys, ¬ okI x) : Gx.Wp (lookup_Table_Add k (DD k) (some ⟨tb, 0, none⟩) t h) fun z => z.1 = 1 ∧ Keeps h z.2 := by
 simp only [lookup_Table_Add]
 refine Gx.Wp.jn fun j4 h4 => ?_
 unfold lookup_Table_Add_l1
 obtain ⟨bot, eb⟩ := iterK_of (fun _ _ _ _ _ _ => none) (lookup_Table_Add_l1b k (DD k) j4) (show ys.length + 1 ≤ k by omega)
 rw [eb]
 have loop : ∀ (d i : Nat) (H : AHeap), i + d = ys.length → Keeps h H → (∃ x ∈ ys.drop i, ¬ okI x) → Gx.Wp (iterK bot (d + 1) (lookup_Table_Add_l1b k (DD k) j4) (some ⟨tb, 0, none⟩) t t (t.len : Int) (i : Int) H) fun z => z.1 = 1 ∧ Keeps h z.2 := fun d => by
  induction d with
  | zero =>
   rintro i H hd kp ⟨x, hx, _⟩
   rw [List.drop_of_length_le (by omega)] at hx; cases hx
  | succ d ih =>
   intro i H hd kp hb
   rw [iterK_s]; simp only [lookup_Table_Add_l1b]
   obtain ⟨x, hx⟩ := isome (l := ys) (i := i) (by omega)
   obtain ⟨q, b1, b2, _⟩ := (R.keeps kp).ld itC_len (by decide) hx
   refine .ifp (by rw [R.len]; simp; omega) (.bnd b1 (.bnd b2 (.bnd (decI6 x) (Wp.newE fun H1 e1 k1 n1 g1 => Wp.stL g1 rfl rfl rfl (by decide) fun H2 c2 n2 g2 => ?_))))
   have k2 : Keeps h H2 := kp.trans (k1.keepsS c2 fun y hy => by subst hy; omega)
   have gx : H2.get H.next = some (.cells (itC x) 57 true 0) := g2
   refine .bnd (sldA_at gx rfl) (.bnd (decI6 x) (.call (check_spec k _ x H2) fun r ⟨q1, q2⟩ => ?_))
   by_cases c : okI x
   ·have h0 : r.1 = 0 := by rw [q1]; unfold chkI; rw [if_pos c]
    refine .ifn (by simp [h0]) ?_
    rw [Gx.w1 (by omega)]
    refine ih (i + 1) r.2 (by omega) (k2.trans q2) ?_
    obtain ⟨y, hy, hny⟩ := hb
    rw [dropc hx] at hy
    rcases List.mem_cons.1 hy with rfl | hy
    ·exact absurd c hny
    ·exact ⟨y, hy, hny⟩
   ·have h0 : r.1 = 1 := by rw [q1, chk_bad c]
    exact .ifp (by simp [h0]) (.of ⟨h0, k2.trans q2⟩)
 exact loop ys.length 0 h (by omega) (.refl _ _) hbad
noncomputable def putL (xs ys : List It) : List It := ys.foldl (fun l x => putI x l) xs
theorem putL_rises : ∀ {ys xs : List It}, Rises xs → Rises (putL xs ys)
 | [], _, h => h
 | _ :: ys, _, h => putL_rises (ys := ys) (put_rises h)
theorem putL_len : ∀ (ys xs : List It), (putL xs ys).length ≤ xs.length + ys.length
 | [], _ => Nat.le_refl _
 | y :: ys, xs => by
  have := putL_len ys (putI y xs)
  have := put_len y xs
  rw [List.length_cons]
  show (putL (putI y xs) ys).length ≤ _
  omega
theorem putL_mem : ∀ {ys xs : List It} {x : It}, x ∈ putL xs ys ↔ x ∈ ys ∨ x ∈ xs
 | [], _, _ => by simp [putL]
 | y :: ys, xs, x => by
  show x ∈ putL (putI y xs) ys ↔ _
  rw [putL_mem, put_mem, List.mem_cons]
  constructor
  ·rintro (h | h | h)
   ·exact .inl (.inr h)
   ·exact .inl (.inl h)
   ·exact .inr h
  ·rintro ((h | h) | h)
   ·exact .inr (.inl h)
   ·exact .inl h
   ·exact .inr (.inr h)
theorem radd_l0 (hk : 300 ≤ k) (R : RowW 6 itC h t ys) (D : CallF) (hr : Rises xs) (hl : xs.length + ys.length + 10 ≤ k) (hN : xs.length + ys.length ≤ 1000000) (ht : ∀ a, t.a = some a → ¬ LOwn rb s a.block) (bot) (j6 : AHeap → Option (Int × AHeap)) {Q : Int × AHeap → Prop}
  (hj : ∀ H s', LT base H rb s' (putL xs ys) → Chg (LOwn rb s) h H → (∀ y, LOwn rb s' y → h.next ≤ y ∨ LOwn rb s y) → Gx.Wp (j6 H) Q) :
  ∀ (d i : Nat) (H : AHeap) (s' : Slc), i + d = ys.length → LT base H rb s' (putL xs (ys.take i)) → Chg (LOwn rb s) h H → (∀ y, LOwn rb s' y → h.next ≤ y ∨ LOwn rb s y) → Gx.Wp (iterK bot (d + 1) (ref15_Table_Add_l0b k D j6) (some ⟨rb, 0, none⟩) t (i : Int) H) Q := by
 intro d
 induction d with
 | zero =>
  intro i H s' hd T c o
  rw [iterK_s]; simp only [ref15_Table_Add_l0b]
  rw [List.take_of_length_le (by omega)] at T
  exact .ifn (by rw [R.len]; simp; omega) (hj H s' T c o)
 | succ d ih =>
  intro i H s' hd T c o
  rw [iterK_s]; simp only [ref15_Table_Add_l0b]
  obtain ⟨x, hx⟩ := isome (l := ys) (i := i) (by omega)
  have RH : RowW 6 itC H t ys := R.chg c ht
  obtain ⟨q, b1, b2, _⟩ := RH.ld itC_len (by decide) hx
  have hpl := putL_len (ys.take i) xs
  rw [List.length_take] at hpl
  refine .ifp (by rw [R.len]; simp; omega) (.bnd b1 (.bnd b2 (.bnd (decI6 x) (.call (put_spec hk D T (putL_rises hr) (by omega) (by omega) x) fun r ⟨s2, T2, c2, o2⟩ => ?_))))
  rw [Gx.w1 (by omega)]
  refine ih (i + 1) r.2 s2 (by omega) ?_ (Chg.beh c c2 fun y hy z => ?_) (fun y hy => ?_)
  ·have : putL xs (ys.take (i + 1)) = putI x (putL xs (ys.take i)) := by
    rw [List.take_add_one, hx]; unfold putL; rw [List.foldl_append]; rfl
   rw [this]; exact T2
  ·rcases o y z with h1 | h1
   ·omega
   ·exact h1
  ·have := c.nx
   rcases o2 y hy with h1 | h1
   ·left; omega
   ·exact o y h1
theorem radd_spec (hk : 300 ≤ k) (D : CallF) (R : RowW 6 itC h t ys) (T : LT base h rb s xs) (hr : Rises xs) (hl : xs.length + ys.length + 10 ≤ k) (hN : xs.length + ys.length ≤ 1000000) (ht : ∀ a, t.a = some a → ¬ LOwn rb s a.block) :
  Gx.Wp (ref15_Table_Add k D (some ⟨rb, 0, none⟩) t h) fun z => ((∀ x ∈ ys, okI x) → z.1 = 0 ∧ ∃ s', LT base z.2 rb s' (putL xs ys) ∧ Chg (LOwn rb s) h z.2 ∧ ∀ y, LOwn rb s' y → h.next ≤ y ∨ LOwn rb s y) ∧ ((∃ x ∈ ys, ¬ okI x) → z.1 = 1 ∧ Keeps h z.2) := by
 simp only [ref15_Table_Add]
 refine Gx.Wp.jn fun j4 h4 => ?_
 unfold ref15_Table_Add_l1
 obtain ⟨bot, eb⟩ := iterK_of (fun _ _ _ _ => none) (ref15_Table_Add_l1b k D j4) (show ys.length + 1 ≤ k by omega)
 rw [eb]
 have loop : ∀ (d i : Nat) (H : AHeap), i + d = ys.length → Keeps h H → (∀ x ∈ ys.take i, okI x) → Gx.Wp (iterK bot (d + 1) (ref15_Table_Add_l1b k D j4) (some ⟨rb, 0, none⟩) t (i : Int) H) fun z => ((∀ x ∈ ys, okI x) → z.1 = 0 ∧ ∃ s', LT base z.2 rb s' (putL xs ys) ∧ Chg (LOwn rb s) h z.2 ∧ ∀ y, LOwn rb s' y → h.next ≤ y ∨ LOwn rb s y) ∧ ((∃ x ∈ ys, ¬ okI x) → z.1 = 1 ∧ Keeps h z.2) := fun d => by
  induction d with
  | zero =>
   intro i H hd kp hok
   rw [iterK_s]; simp only [ref15_Table_Add_l1b]
   rw [List.take_of_length_le (by omega)] at hok
   refine .ifn (by rw [R.len]; simp; omega) ?_
   rw [h4]
   refine Gx.Wp.jn fun j6 h6 => ?_
   unfold ref15_Table_Add_l0
   obtain ⟨bot2, eb2⟩ := iterK_of (fun _ _ _ _ => none) (ref15_Table_Add_l0b k D j6) (show ys.length + 1 ≤ k by omega)
   rw [eb2]
   have nk := kp.nx
   refine radd_l0 hk (R.keeps kp) D hr hl hN ht bot2 j6 (fun H2 s' t1 t2 t3 => ?_) ys.length 0 H s (by omega) (T.keeps kp) (.refl _ _) (fun y hy => .inr hy)
   rw [h6]
   refine .of ⟨fun _ => ⟨rfl, s', t1, Chg.trans kp.keeps t2, fun y hy => ?_⟩, fun ⟨x, hx, hn⟩ => absurd (hok x hx) hn⟩
   rcases t3 y hy with q | q
   ·left; omega
   ·exact .inr q
  | succ d ih =>
   intro i H hd kp hok
   rw [iterK_s]; simp only [ref15_Table_Add_l1b]
   obtain ⟨x, hx⟩ := isome (l := ys) (i := i) (by omega)
   obtain ⟨q, b1, b2, _⟩ := (R.keeps kp).ld itC_len (by decide) hx
   refine .ifp (by rw [R.len]; simp; omega) (.bnd b1 (.bnd b2 (.bnd (decI6 x) (.call (rcheck_spec k D x H) fun r ⟨q1, q2⟩ => ?_))))
   by_cases c : okI x
   ·have h0 : r.1 = 0 := by rw [q1]; unfold chkI; rw [if_pos c]
    refine .ifn (by simp [h0]) ?_
    rw [Gx.w1 (by omega)]
    refine ih (i + 1) r.2 (by omega) (kp.trans q2) fun y hy => ?_
    rw [List.take_add_one, hx] at hy
    rcases List.mem_append.1 hy with hy | hy
    ·exact hok y hy
    ·have : y = x := by simpa using hy
     rw [this]; exact c
   ·have h0 : r.1 = 1 := by rw [q1, chk_bad c]
    exact .ifp (by simp [h0]) (.of ⟨fun hall => absurd (hall x (mem_of hx)) c, fun _ => ⟨h0, kp.trans q2⟩⟩)
 exact loop ys.length 0 h (by omega) (.refl _ _) (fun x hx => by simp at hx)
theorem rdrop_spec (D : CallF) (T : LT base h rb s xs) (hl : xs.length + 10 ≤ k) (hN : xs.length ≤ 1000000) (p : ByteArray) :
  Gx.Wp (ref15_Table_Drop k D (some ⟨rb, 0, none⟩) p h) fun z => z.1 = ((xs.length - (xs.filter (outP p)).length : Nat) : Int) ∧ ∃ s', LT base z.2 rb s' (xs.filter (outP p)) ∧ Chg (LOwn rb s) h z.2 ∧ ∀ y, LOwn rb s' y → h.next ≤ y ∨ LOwn rb s y := by
 simp only [ref15_Table_Drop]
 refine Gx.Wp.jn fun j4 h4 => ?_
 unfold ref15_Table_Drop_l0
 obtain ⟨bot, eb⟩ := iterK_of (fun _ _ _ _ _ => none) (ref15_Table_Drop_l0b k D j4) (show xs.length + 1 ≤ k by omega)
 rw [eb]
 have hlt := T.lt
 have hge := T.ge
 have loop : ∀ (d i : Nat) (o : Slc) (H : AHeap), i + d = xs.length → Keeps h H → AccW 6 itC 57 h.next H o ((xs.take i).filter (outP p)) → Gx.Wp (iterK bot (d + 1) (ref15_Table_Drop_l0b k D j4) (some ⟨rb, 0, none⟩) p o (i : Int) H) fun z => z.1 = ((xs.length - (xs.filter (outP p)).length : Nat) : Int) ∧ ∃ s', LT base z.2 rb s' (xs.filter (outP p)) ∧ Chg (LOwn rb s) h z.2 ∧ ∀ y, LOwn rb s' y → h.next ≤ y ∨ LOwn rb s y := fun d => by
  induction d with
  | zero =>
   intro i o H hd kp A
   rw [iterK_s]; simp only [ref15_Table_Drop_l0b]
   have TH := T.keeps kp
   refine .bnd rfl (.bnd TH.ld (.ifn (by rw [TH.row.len]; simp; omega) ?_))
   rw [List.take_of_length_le (by omega)] at A
   rw [h4]
   have hfl := List.length_filter_le (outP p) xs
   have Ro := A.row itC_len
   refine .bnd rfl (.bnd TH.ld (.bnd rfl (.bnd (st1_of TH.blk (by simp) rfl) (.of ⟨?_, o, ⟨by simp, by simpa using TH.lt, hge, ?_, fun a ha e => ?_⟩, ?_, ?_⟩))))
   ·dsimp only
    rw [TH.row.len, Ro.len, Gx.w64 _ (by omega)]; omega
   ·exact AccW.chg (S := (· = rb)) ⟨A.st, fun a ha => ⟨(A.lt a ha).1, by have := (A.lt a ha).2; omega⟩⟩ (Chg.set (.inr rfl)) fun a ha e => by have := (A.lt a ha).2; omega
   ·have := (A.lt a ha).2; omega
   ·exact Chg.beh (T := (· = rb)) (Chg.keeps kp) (Chg.set (.inr rfl)) fun y _ e => .inl e
   ·rintro y (rfl | ⟨a, ha, rfl⟩)
    ·exact .inr (.inl rfl)
    ·exact .inl (A.lt a ha).2
  | succ d ih =>
   intro i o H hd kp A
   rw [iterK_s]; simp only [ref15_Table_Drop_l0b]
   have TH := T.keeps kp
   obtain ⟨x, hx⟩ := isome (l := xs) (i := i) (by omega)
   obtain ⟨q, b1, b2, _, b4⟩ := TH.row.ld itC_len (by decide) hx
   have l1 : ldS ⟨q.block, q.off + 1 + 0, none⟩ H = some x.2.1 := b4 1 x.2.1 rfl
   have et : xs.take (i + 1) = xs.take i ++ [x] := by rw [List.take_add_one, hx]; rfl
   have hfl := List.length_filter_le (outP p) (xs.take i)
   rw [List.length_take] at hfl
   refine .bnd rfl (.bnd TH.ld (.ifp (by rw [TH.row.len]; simp; omega) (Gx.Wp.jn fun j22 h22 => .bnd rfl (.bnd TH.ld (.bnd b1 (.bnd l1 ?_))))))
   rw [beq_ba]
   by_cases c : x.2.1 = p
   ·refine .ifn (by simp [c]) ?_
    rw [h22]
    dsimp only
    rw [Gx.w1 (by omega)]
    refine ih (i + 1) o H (by omega) kp ?_
    rw [et, List.filter_append]
    have : [x].filter (outP p) = [] := by simp [outP, inP, c]
    rw [this, List.append_nil]; exact A
   ·refine .ifp (by simp [c]) (.bnd rfl (.bnd TH.ld (.bnd b1 (.bnd b2 (.bnd (decI6 x) (Wp.newE fun H1 e1 k1 n1 g1 => ?_))))))
    obtain ⟨o2, h5, a2, A2, c2, d2⟩ := A.push itC_len itC_one x (bytes := 64) (by decide) (by omega) kp.nx
    have eH : H1 = H.new (.cells (itC x) 57 true 0) := e1
    rw [eH]
    refine .bnd (rdS_oneW itC_len x 57) (.bnd a2 ?_)
    rw [h22]
    dsimp only
    rw [Gx.w1 (by omega)]
    refine ih (i + 1) o2 h5 (by omega) (kp.keepsS c2 fun y ⟨a, ha, e⟩ => by rw [e]; exact (A.lt a ha).2) ?_
    rw [et, List.filter_append]
    have : [x].filter (outP p) = [x] := by simp [outP, inP, c]
    rw [this]; exact A2
 exact loop xs.length 0 ⟨none, 0, 0⟩ h (by omega) (.refl _ _) (by simpa using AccW.nil _ _ _ _ _)
end
end Gc
namespace Gc
open Go Gx Go.RowKit Go.Maps
section
variable {α : Type} {w : Nat} {enc : α → List Value} {e : TypeId} {base bytes : Nat} {H : AHeap} {s o : Slc} {xs os : List α}
theorem flatG_take (hw : ∀ x, (enc x).length = w) (ys : List α) : ∀ p, (ys.flatMap enc).take (p * w) = (ys.take p).flatMap enc
 | 0 => by simp
 | p + 1 => by
  cases ys with
  | nil => simp
  | cons y ys =>
   have e : (p + 1) * w = (enc y).length + p * w := by rw [hw, Nat.add_mul]; omega
   rw [List.flatMap_cons, e, List.take_length_add_append, flatG_take hw ys p]
   simp
theorem flatG_drop (hw : ∀ x, (enc x).length = w) (ys : List α) : ∀ p, (ys.flatMap enc).drop (p * w) = (ys.drop p).flatMap enc
 | 0 => by simp
 | p + 1 => by
  cases ys with
  | nil => simp
  | cons y ys =>
   have e : (p + 1) * w = (enc y).length + p * w := by rw [hw, Nat.add_mul]; omega
   rw [List.flatMap_cons, e, List.drop_length_add_append, flatG_drop hw ys p]
   simp
theorem appG (hw : ∀ x, (enc x).length = w) (ho : ∀ x, allOne (enc x) = true) (A : AccW w enc e base H o os) (ys : List α) (hb : base ≤ H.next) (h1 : 1 ≤ bytes) (hl : 2 * (os.length + ys.length) * bytes ≤ 281474976710656) :
  ∃ s' h', appendA w bytes e H o (ys.flatMap enc) ys.length = some (s', h') ∧ AccW w enc e base h' s' (os ++ ys) ∧ Chg (ofS o) H h' ∧ ∀ a, s'.a = some a → H.next ≤ a.block ∨ ofS o a.block := by
 by_cases c : ys = []
 ·subst c
  rw [List.append_nil]
  rcases A.st with ⟨rfl, rfl⟩ | ⟨b, rfl, h2, h3⟩
  ·refine ⟨⟨none, 0, 0⟩, H, ?_, A, .refl _ _, fun a ha => by cases ha⟩
   simp [appendA]
  ·refine ⟨⟨some ⟨b, 0, some (w + 1)⟩, os.length, os.length⟩, H, ?_, A, .refl _ _, fun a ha => .inr ⟨a, ha, rfl⟩⟩
   simp [appendA]
 ·have hp : 0 < ys.length := List.length_pos_iff.2 c
  rcases A.st with ⟨rfl, rfl⟩ | ⟨b, rfl, h2, h3⟩
  ·refine ⟨⟨some ⟨H.next, 0, some (w + 1)⟩, ys.length, ys.length⟩, H.new (.cells (ys.flatMap enc) e true 0), ?_, ⟨.inr ⟨H.next, rfl, by simp, c⟩, fun a ha => ?_⟩, Chg.keeps (Keeps.new H _), fun a ha => ?_⟩
   ·unfold appendA
    rw [if_neg (by show ¬ 0 + ys.length ≤ 0; omega), if_pos ⟨by simpa using hl, h1⟩]
   ·cases ha; exact ⟨Nat.lt_succ_self _, hb⟩
   ·cases ha; exact .inl (Nat.le_refl _)
  ·have hlt := A.lt ⟨b, 0, some (w + 1)⟩ rfl
   have hop : 0 < os.length := List.length_pos_iff.2 h3
   refine ⟨⟨some ⟨H.next, 0, some (w + 1)⟩, (os ++ ys).length, (os ++ ys).length⟩, (H.kill b).new (.cells ((os ++ ys).flatMap enc) e true 0), ?_, ⟨.inr ⟨H.next, rfl, by simp, by simp [c]⟩, fun a ha => ?_⟩, Chg.kill_new (.inr ⟨⟨b, 0, some (w + 1)⟩, rfl, rfl⟩), fun a ha => ?_⟩
   ·unfold appendA
    rw [if_neg (by show ¬ os.length + ys.length ≤ os.length; omega), if_pos ⟨hl, h1⟩]
    simp only [h2]
    rw [if_pos ⟨by show os.length ≠ 0; omega, trivial, by rw [flatW_length hw]; exact Nat.le_refl _, Nat.zero_le _, trivial, trivial, flatW_one ho ys⟩]
    rw [show os.length * w = (os.flatMap enc).length from (flatW_length hw os).symm, List.take_length, List.length_append, List.flatMap_append]
   ·cases ha; exact ⟨Nat.lt_succ_self _, hb⟩
   ·cases ha; exact .inl (Nat.le_refl _)
theorem spG (w : Nat) : spOk (some (w + 1)) w = true := Nat.beq_refl w
theorem takeG (hw : ∀ x, (enc x).length = w) (A : AccW w enc e base H s xs) {p : Nat} (hp : p ≤ xs.length) : ∃ t, Gx.subL w s none (some (p : Int)) none = some t ∧ t.len = p ∧ Gx.rdS w t H = some ((xs.take p).flatMap enc) := by
 rcases A.st with ⟨rfl, rfl⟩ | ⟨b, rfl, h2, h3⟩
 ·obtain rfl : p = 0 := by simpa using hp
  exact ⟨⟨none, 0, 0⟩, rfl, rfl, rfl⟩
 ·refine ⟨_, subL_hi (spG w) hp, rfl, ?_⟩
  simp only [Gx.rdS]
  rw [rdL_ok h2 (by rw [flatW_length hw, Nat.zero_add]; exact Nat.mul_le_mul_right _ hp), List.drop_zero, flatG_take hw]
theorem dropG (hw : ∀ x, (enc x).length = w) (A : AccW w enc e base H s xs) {p : Nat} (hp : p ≤ xs.length) : ∃ t, Gx.subL w s (some (p : Int)) none none = some t ∧ t.len = xs.length - p ∧ Gx.rdS w t H = some ((xs.drop p).flatMap enc) := by
 rcases A.st with ⟨rfl, rfl⟩ | ⟨b, rfl, h2, h3⟩
 ·obtain rfl : p = 0 := by simpa using hp
  exact ⟨⟨none, 0, 0⟩, rfl, rfl, rfl⟩
 ·by_cases c : p = xs.length
  ·subst c
   refine ⟨⟨some ⟨b, 0, some (w + 1)⟩, 0, 0⟩, ?_, by show 0 = _; omega, ?_⟩
   ·simp only [Gx.subL, Option.getD_none, Option.getD_some, spG]
    rw [if_pos (by omega)]
    simp
   ·rw [List.drop_length]
    simp [Gx.rdS, AHeap.rdL]
  ·refine ⟨_, subL_lo (spG w) hp (Nat.le_refl _) (by omega), rfl, ?_⟩
   simp only [Gx.rdS]
   rw [rdL_ok h2 (by rw [flatW_length hw, Nat.zero_add, ← Nat.add_mul]; exact Nat.mul_le_mul_right _ (by omega)), Nat.zero_add, flatG_drop hw, List.take_of_length_le (by rw [flatW_length hw, List.length_drop]; exact Nat.le_refl _)]
end
def sC (x : ByteArray) : List Value := [.string x]
theorem sC_len (x : ByteArray) : (sC x).length = 1 := rfl
theorem sC_one (x : ByteArray) : allOne (sC x) = true := rfl
theorem rowS {h : AHeap} {s : Slc} {xs : List ByteArray} (R : RowW 1 sC h s xs) : Row encS h s xs := ⟨R.len, fun i x hx => by
 obtain ⟨a, c, e, r, fz, h1, h2, h3, h4⟩ := R.at' i x hx
 exact ⟨a, c, e, r, fz, h1, h2, h3, by have := h4 0 (.string x) rfl; rw [Nat.mul_one, Nat.add_zero] at this; exact this⟩⟩
section
variable {k base rb : Nat} {h h' : AHeap} {s : Slc} {xs : List It}
theorem ld5 {H : AHeap} {q : Addr} {x : It} (h6 : ldA 6 q H = some (itC x)) : ldA 5 ⟨q.block, q.off + 1, none⟩ H = some (plC x.2) := by
 simp only [ldA] at h6 ⊢
 obtain ⟨cc, e, r, fz, g1, g2, g3⟩ := rdL_some h6 (by decide)
 rw [rdL_ok g1 (by omega)]
 congr 1
 have : (cc.drop (q.off + 1)).take 5 = ((cc.drop q.off).take 6).drop 1 := by rw [List.drop_take, List.drop_drop]
 rw [this, ← g3]; rfl
theorem rplaces_spec (D : CallF) (T : LT base h rb s xs) (hl : xs.length + 10 ≤ k) (hN : xs.length ≤ 1000000) (id : ByteArray) :
  Gx.Wp (ref15_Table_Places k D (some ⟨rb, 0, none⟩) id h) fun z => AccW 5 plC 55 h.next z.2 z.1 (placesL xs id) ∧ Keeps h z.2 := by
 simp only [ref15_Table_Places]
 refine Gx.Wp.jn fun j3 h3 => ?_
 unfold ref15_Table_Places_l0
 obtain ⟨bot, eb⟩ := iterK_of (fun _ _ _ _ _ => none) (ref15_Table_Places_l0b k D j3) (show xs.length + 1 ≤ k by omega)
 rw [eb]
 have loop : ∀ (d i : Nat) (o : Slc) (H : AHeap), i + d = xs.length → Keeps h H → AccW 5 plC 55 h.next H o (placesL (xs.take i) id) → Gx.Wp (iterK bot (d + 1) (ref15_Table_Places_l0b k D j3) (some ⟨rb, 0, none⟩) id o (i : Int) H) fun z => AccW 5 plC 55 h.next z.2 z.1 (placesL xs id) ∧ Keeps h z.2 := fun d => by
  induction d with
  | zero =>
   intro i o H hd kp A
   rw [iterK_s]; simp only [ref15_Table_Places_l0b]
   have TH := T.keeps kp
   rw [List.take_of_length_le (by omega)] at A
   refine .bnd rfl (.bnd TH.ld (.ifn (by rw [TH.row.len]; simp; omega) ?_))
   rw [h3]
   exact .of ⟨A, kp⟩
  | succ d ih =>
   intro i o H hd kp A
   rw [iterK_s]; simp only [ref15_Table_Places_l0b]
   have TH := T.keeps kp
   obtain ⟨x, hx⟩ := isome (l := xs) (i := i) (by omega)
   obtain ⟨q, b1, b2, _, b4⟩ := TH.row.ld itC_len (by decide) hx
   have l1 : ldS ⟨q.block, q.off + 0, none⟩ H = some x.1 := b4 0 x.1 rfl
   have et : xs.take (i + 1) = xs.take i ++ [x] := by rw [List.take_add_one, hx]; rfl
   have hfl : (placesL (xs.take i) id).length ≤ i := by unfold placesL; rw [List.length_map]; exact Nat.le_trans (List.length_filter_le _ _) (by rw [List.length_take]; omega)
   refine .bnd rfl (.bnd TH.ld (.ifp (by rw [TH.row.len]; simp; omega) (Gx.Wp.jn fun j17 h17 => .bnd rfl (.bnd TH.ld (.bnd b1 (.bnd l1 ?_))))))
   rw [beq_ba]
   by_cases c : x.1 = id
   ·refine .ifp (by simp [c]) (.bnd rfl (.bnd TH.ld (.bnd b1 (.bnd (ld5 b2) (.bnd (decP5 x.2) (Wp.newE fun H1 e1 k1 n1 g1 => ?_))))))
    obtain ⟨o2, h5, a2, A2, c2, d2⟩ := A.push plC_len plC_one x.2 (bytes := 48) (by decide) (by omega) kp.nx
    have eH : H1 = H.new (.cells (plC x.2) 55 true 0) := e1
    rw [eH]
    refine .bnd (rdS_oneW plC_len x.2 55) (.bnd a2 ?_)
    rw [h17]
    dsimp only
    rw [Gx.w1 (by omega)]
    refine ih (i + 1) o2 h5 (by omega) (kp.keepsS c2 fun y ⟨a, ha, e⟩ => by rw [e]; exact (A.lt a ha).2) ?_
    have : placesL (xs.take (i + 1)) id = placesL (xs.take i) id ++ [x.2] := by unfold placesL; rw [et, List.filter_append, List.map_append]; simp [c]
    rw [this]; exact A2
   ·refine .ifn (by simp [c]) ?_
    rw [h17]
    dsimp only
    rw [Gx.w1 (by omega)]
    refine ih (i + 1) o H (by omega) kp ?_
    have : placesL (xs.take (i + 1)) id = placesL (xs.take i) id := by unfold placesL; rw [et, List.filter_append, List.map_append]; simp [c]
    rw [this]; exact A
 exact loop xs.length 0 ⟨none, 0, 0⟩ h (by omega) (.refl _ _) (AccW.nil _ _ _ _ _)
theorem rget_spec (D : CallF) (T : LT base h rb s xs) (hl : xs.length + 10 ≤ k) (hN : xs.length ≤ 1000000) (id : ByteArray) :
  Gx.Wp (ref15_Table_Get k D (some ⟨rb, 0, none⟩) id h) fun z => z.1 = getL xs id ∧ Keeps h z.2 := by
 simp only [ref15_Table_Get]
 refine Wp.newE fun H1 e1 k1 n1 g1 => .call (rplaces_spec D (T.keeps k1) hl hN id) fun r ⟨A, k2⟩ => ?_
 have g2 := k2.got (by omega) g1
 have n2 := k2.nx
 have hrow := A.row plC_len
 cases hp : placesL xs id with
 | nil =>
  rw [hp] at hrow
  refine .ifp (by rw [hrow.len]; rfl) (Wp.stL g2 rfl rfl rfl (by decide) fun H3 c3 n3 g3 => .bnd (sldA_at g3 rfl) (.bnd (decP5 noPl) (.of ⟨by unfold getL; rw [hp], ?_⟩)))
  exact (k1.trans k2).keepsS c3 fun y hy => by subst hy; omega
 | cons p l =>
  rw [hp] at hrow
  obtain ⟨q, b1, b2, _⟩ := hrow.ld plC_len (by decide) (i := 0) (x := p) rfl
  refine .ifn (by rw [hrow.len]; simp; omega) (.bnd b1 (.bnd b2 (.bnd (decP5 p) (Wp.stL g2 rfl rfl rfl (by decide) fun H3 c3 n3 g3 => .bnd (sldA_at g3 rfl) (.bnd (decP5 p) (.of ⟨by unfold getL; rw [hp], ?_⟩))))))
  exact (k1.trans k2).keepsS c3 fun y hy => by subst hy; omega
theorem rids_spec (D : CallF) (T : LT base h rb s xs) (hl : xs.length + 10 ≤ k) (hN : xs.length ≤ 1000000) :
  Gx.Wp (ref15_Table_Ids k D (some ⟨rb, 0, none⟩) h) fun z => Acc encS 9 h.next z.2 z.1 (ddL (xs.map (·.1))) ∧ Keeps h z.2 := by
 simp only [ref15_Table_Ids]
 refine Gx.Wp.jn fun j3 h3 => ?_
 unfold ref15_Table_Ids_l0
 obtain ⟨bot, eb⟩ := iterK_of (fun _ _ _ _ => none) (ref15_Table_Ids_l0b k D j3) (show xs.length + 1 ≤ k by omega)
 rw [eb]
 obtain ⟨ws, ews⟩ : ∃ ws, ws = xs.map (·.1) := ⟨_, rfl⟩
 have hwl : ws.length = xs.length := by rw [ews, List.length_map]
 rw [← ews]
 have loop : ∀ (d i : Nat) (o : Slc) (H : AHeap), i + d = xs.length → Keeps h H → Acc encS 9 h.next H o (ddL (ws.take i)) → Gx.Wp (iterK bot (d + 1) (ref15_Table_Ids_l0b k D j3) (some ⟨rb, 0, none⟩) o (i : Int) H) fun z => Acc encS 9 h.next z.2 z.1 (ddL ws) ∧ Keeps h z.2 := fun d => by
  induction d with
  | zero =>
   intro i o H hd kp A
   rw [iterK_s]; simp only [ref15_Table_Ids_l0b]
   have TH := T.keeps kp
   rw [List.take_of_length_le (by omega)] at A
   refine .bnd rfl (.bnd TH.ld (.ifn (by rw [TH.row.len]; simp; omega) ?_))
   rw [h3]
   exact .of ⟨A, kp⟩
  | succ d ih =>
   intro i o H hd kp A
   rw [iterK_s]; simp only [ref15_Table_Ids_l0b]
   have TH := T.keeps kp
   obtain ⟨x, hx⟩ := isome (l := xs) (i := i) (by omega)
   obtain ⟨q, b1, b2, _, b4⟩ := TH.row.ld itC_len (by decide) hx
   have l1 : ldS ⟨q.block, q.off + 0, none⟩ H = some x.1 := b4 0 x.1 rfl
   have hwx : ws[i]? = some x.1 := by rw [ews, List.getElem?_map, hx]; rfl
   have et : ws.take (i + 1) = ws.take i ++ [x.1] := by rw [List.take_add_one, hwx]; rfl
   have edd : ddL (ws.take (i + 1)) = addD (ddL (ws.take i)) x.1 := by rw [et, ddL_snoc]
   have hol : (ddL (ws.take i)).length ≤ 1000000 := Nat.le_trans (ddL_len _) (by rw [List.length_take]; omega)
   refine .bnd rfl (.bnd TH.ld (.ifp (by rw [TH.row.len]; simp; omega) (Gx.Wp.jn fun j15 h15 => Gx.Wp.jn fun j21 h21 => ?_)))
   have step : ∀ (y : Bool), y = decide (¬ (ddL (ws.take i)).getLast? = some x.1) → Gx.Wp (j21 (some ⟨rb, 0, none⟩) o (i : Int) y H) fun z => Acc encS 9 h.next z.2 z.1 (ddL ws) ∧ Keeps h z.2 := fun y hy => by
    rw [h21]
    by_cases c : (ddL (ws.take i)).getLast? = some x.1
    ·refine .ifn (by simp [hy, c]) ?_
     rw [h15]
     dsimp only
     rw [Gx.w1 (by omega)]
     refine ih (i + 1) o H (by omega) kp ?_
     rw [edd]
     unfold addD
     rw [if_pos c]; exact A
    ·refine .ifp (by simp [hy, c]) (.bnd rfl (.bnd TH.ld (.bnd b1 (.bnd l1 (Wp.newE fun H3 e3 k3 n3 g3 => ?_)))))
     obtain ⟨s', h9, a1, a2, A', c9, d9⟩ := Acc.pushK A (fun _ => rfl) x.1 (bytes := 16) e3 (by omega) (by decide) kp.nx
     refine .bnd a1 (.bnd a2 ?_)
     rw [h15]
     dsimp only
     rw [Gx.w1 (by omega)]
     refine ih (i + 1) s' h9 (by omega) (kp.keepsS c9 fun y ⟨a, ha, e⟩ => by rw [e]; exact (A.lt a ha).2) ?_
     rw [edd]
     unfold addD
     rw [if_neg c]; exact A'
   by_cases c0 : i = 0
   ·subst c0
    exact .ifp (by simp) (step true (by simp [ddL]))
   ·obtain ⟨z, hz⟩ := isome (l := xs) (i := i - 1) (by omega)
    obtain ⟨q2, d1, d2, _, d4⟩ := TH.row.ld itC_len (by decide) hz
    have l2 : ldS ⟨q2.block, q2.off + 0, none⟩ H = some z.1 := d4 0 z.1 rfl
    have e1 : IntKind.wrap .i64 ((i : Int) - 1) = ((i - 1 : Nat) : Int) := by rw [Gx.w64 _ (by omega)]; omega
    rw [e1]
    have hlast : (ddL (ws.take i)).getLast? = some z.1 := by
     rw [ddL_last, List.getLast?_eq_getElem?, List.getElem?_take, List.length_take, if_pos (by omega)]
     rw [show min i ws.length - 1 = i - 1 by omega, ews, List.getElem?_map, hz]; rfl
    refine .ifn (by simp; omega) (.bnd rfl (.bnd TH.ld (.bnd b1 (.bnd l1 (.bnd rfl (.bnd TH.ld (.bnd d1 (.bnd l2 (step _ ?_)))))))))
    rw [hlast, beq_ba]
    by_cases e : x.1 = z.1
    ·simp [e]
    ·simp [e, Ne.symm e]
 exact loop xs.length 0 ⟨none, 0, 0⟩ h (by omega) (.refl _ _) (Acc.nil _ _ _ _)
end
end Gc
namespace Gc
open Go Gx Go.RowKit Go.Maps
def posB (p : ByteArray) (o : List ByteArray) : Nat := (o.takeWhile fun y => decide (bl y < bl p)).length
theorem posB_le (p : ByteArray) (o : List ByteArray) : posB p o ≤ o.length := (List.takeWhile_sublist _).length_le
theorem posB_ahead {p : ByteArray} : ∀ {o : List ByteArray} {i : Nat} {y : ByteArray}, i < posB p o → o[i]? = some y → bl y < bl p
 | [], i, y, h, _ => by simp [posB] at h
 | z :: o, i, y, h, hy => by
  unfold posB at h
  by_cases c : bl z < bl p
  ·simp only [List.takeWhile_cons, c, decide_true, if_true, List.length_cons] at h
   cases i with
   | zero => simp at hy; subst hy; exact c
   | succ i => exact posB_ahead (o := o) (i := i) (by unfold posB; omega) (by simpa using hy)
  ·simp [c] at h
theorem posB_at {p : ByteArray} : ∀ {o : List ByteArray} {y : ByteArray}, o[posB p o]? = some y → ¬ bl y < bl p
 | [], y, hy => by simp at hy
 | z :: o, y, hy => by
  unfold posB at hy
  by_cases c : bl z < bl p
  ·simp only [List.takeWhile_cons, c, decide_true, if_true, List.length_cons, List.getElem?_cons_succ] at hy
   exact posB_at (o := o) hy
  ·simp [c] at hy; subst hy; exact c
theorem posB_mem {p : ByteArray} {o : List ByteArray} (hr : o.Pairwise ltB) : p ∈ o ↔ o[posB p o]? = some p := by
 constructor
 ·intro h
  obtain ⟨i, hi, e⟩ := List.getElem_of_mem h
  have hx : o[i]? = some p := by rw [← e]; exact List.getElem?_eq_getElem hi
  have h1 : posB p o ≤ i := Nat.le_of_not_lt fun q => List.lt_irrefl _ (posB_ahead q hx)
  by_cases e2 : posB p o = i
  ·rw [e2]; exact hx
  ·obtain ⟨y, hy⟩ := isome (l := o) (i := posB p o) (by omega)
   have := List.pairwise_iff_getElem.1 hr (posB p o) i (by omega) hi (by omega)
   rw [(List.getElem?_eq_some_iff.1 hy).2, e] at this
   exact absurd this (posB_at hy)
 ·exact fun h => List.mem_of_getElem? h
open Classical in
noncomputable def insB (o : List ByteArray) (p : ByteArray) : List ByteArray := if p ∈ o then o else o.take (posB p o) ++ [p] ++ o.drop (posB p o)
theorem insB_mem {o : List ByteArray} {p y : ByteArray} : y ∈ insB o p ↔ y = p ∨ y ∈ o := by
 unfold insB
 split
 ·rename_i h
  constructor
  ·exact .inr
  ·rintro (rfl | h')
   ·exact h
   ·exact h'
 ·have e := List.take_append_drop (posB p o) o
  rw [List.mem_append, List.mem_append, List.mem_singleton]
  constructor
  ·rintro ((h | h) | h)
   ·exact .inr (List.mem_of_mem_take h)
   ·exact .inl h
   ·exact .inr (List.mem_of_mem_drop h)
  ·rintro (h | h)
   ·exact .inl (.inr h)
   ·rw [← e, List.mem_append] at h
    rcases h with h | h
    ·exact .inl (.inl h)
    ·exact .inr h
theorem insB_rises {o : List ByteArray} {p : ByteArray} (hr : o.Pairwise ltB) : (insB o p).Pairwise ltB := by
 unfold insB
 split
 ·exact hr
 ·rename_i hp
  rw [List.pairwise_append, List.pairwise_append]
  have h1 : ∀ y ∈ o.take (posB p o), ltB y p := fun y hy => by
   obtain ⟨i, hi, e⟩ := List.getElem_of_mem hy
   have : (o.take (posB p o))[i]? = some y := by rw [← e]; exact List.getElem?_eq_getElem hi
   rw [List.getElem?_take] at this
   split at this
   ·rename_i hlt; exact posB_ahead hlt this
   ·cases this
  have h2 : ∀ y ∈ o.drop (posB p o), ltB p y := fun y hy => by
   obtain ⟨i, hi, e⟩ := List.getElem_of_mem hy
   have h3 : (o.drop (posB p o))[i]? = some y := by rw [← e]; exact List.getElem?_eq_getElem hi
   rw [List.getElem?_drop] at h3
   have hlen := (List.getElem?_eq_some_iff.1 h3).1
   obtain ⟨z, hz⟩ := isome (l := o) (i := posB p o) (by omega)
   have hzp := posB_at hz
   have hpz : ltB p z := by
    rcases ltB_total p z with g | g | g
    ·exact g
    ·subst g; exact absurd (List.mem_of_getElem? hz) hp
    ·exact absurd g hzp
   by_cases e2 : i = 0
   ·subst e2
    rw [Nat.add_zero, hz] at h3; cases h3; exact hpz
   ·have := List.pairwise_iff_getElem.1 hr (posB p o) (posB p o + i) (by omega) hlen (by omega)
    rw [(List.getElem?_eq_some_iff.1 hz).2, (List.getElem?_eq_some_iff.1 h3).2] at this
    exact List.lt_trans hpz this
  refine ⟨⟨hr.sublist (List.take_sublist _ _), List.pairwise_singleton _ _, fun a ha b hb => ?_⟩, hr.sublist (List.drop_sublist _ _), fun a ha b hb => ?_⟩
  ·rw [List.mem_singleton] at hb; subst hb; exact h1 a ha
  ·rcases List.mem_append.1 ha with ha | ha
   ·exact List.lt_trans (h1 a ha) (h2 b hb)
   ·rw [List.mem_singleton] at ha; subst ha; exact h2 b hb
theorem insB_len (o : List ByteArray) (p : ByteArray) : (insB o p).length ≤ o.length + 1 := by
 unfold insB
 split
 ·omega
 ·have := posB_le p o
  simp only [List.length_append, List.length_take, List.length_drop, List.length_singleton]; omega
noncomputable def rpL (ps : List ByteArray) : List ByteArray := ps.foldl insB []
theorem rpL_snoc (ps : List ByteArray) (p : ByteArray) : rpL (ps ++ [p]) = insB (rpL ps) p := by simp [rpL, List.foldl_append]
theorem rpL_rises (ps : List ByteArray) : (rpL ps).Pairwise ltB := ddL_ind (Q := fun ps => (rpL ps).Pairwise ltB) List.Pairwise.nil (fun l x ih => by rw [rpL_snoc]; exact insB_rises ih) ps
theorem rpL_mem (ps : List ByteArray) (y : ByteArray) : y ∈ rpL ps ↔ y ∈ ps := ddL_ind (Q := fun ps => y ∈ rpL ps ↔ y ∈ ps) Iff.rfl (fun l x ih => by
 rw [rpL_snoc, insB_mem, ih, List.mem_append, List.mem_singleton]
 constructor
 ·rintro (h | h)
  ·exact .inr h
  ·exact .inl h
 ·rintro (h | h)
  ·exact .inr h
  ·exact .inl h) ps
theorem rpL_len (ps : List ByteArray) : (rpL ps).length ≤ ps.length := ddL_ind (Q := fun ps => (rpL ps).length ≤ ps.length) (Nat.le_refl _) (fun l x ih => by
 rw [rpL_snoc, List.length_append]
 exact Nat.le_trans (insB_len _ _) (Nat.add_le_add_right ih _)) ps
section
variable {k base rb : Nat} {h h' : AHeap} {s : Slc} {xs : List It}
theorem rpacks_spec (D : CallF) (T : LT base h rb s xs) (hl : xs.length + 10 ≤ k) (hN : xs.length ≤ 1000000) :
  Gx.Wp (ref15_Table_Packs k D (some ⟨rb, 0, none⟩) h) fun z => AccW 1 sC 9 h.next z.2 z.1 (rpL (xs.map (·.2.1))) ∧ Keeps h z.2 := by
 simp only [ref15_Table_Packs]
 refine Gx.Wp.jn fun j3 h3 => ?_
 unfold ref15_Table_Packs_l0
 obtain ⟨bot, eb⟩ := iterK_of (fun _ _ _ _ => none) (ref15_Table_Packs_l0b k D j3) (show xs.length + 1 ≤ k by omega)
 rw [eb]
 obtain ⟨ws, ews⟩ : ∃ ws, ws = xs.map (·.2.1) := ⟨_, rfl⟩
 have hwl : ws.length = xs.length := by rw [ews, List.length_map]
 rw [← ews]
 have loop : ∀ (d i : Nat) (o : Slc) (H : AHeap), i + d = xs.length → Keeps h H → AccW 1 sC 9 h.next H o (rpL (ws.take i)) → Gx.Wp (iterK bot (d + 1) (ref15_Table_Packs_l0b k D j3) (some ⟨rb, 0, none⟩) o (i : Int) H) fun z => AccW 1 sC 9 h.next z.2 z.1 (rpL ws) ∧ Keeps h z.2 := fun d => by
  induction d with
  | zero =>
   intro i o H hd kp A
   rw [iterK_s]; simp only [ref15_Table_Packs_l0b]
   have TH := T.keeps kp
   rw [List.take_of_length_le (by omega)] at A
   refine .bnd rfl (.bnd TH.ld (.ifn (by rw [TH.row.len]; simp; omega) ?_))
   rw [h3]
   exact .of ⟨A, kp⟩
  | succ d ih =>
   intro i o H hd kp A
   rw [iterK_s]; simp only [ref15_Table_Packs_l0b]
   have TH := T.keeps kp
   obtain ⟨x, hx⟩ := isome (l := xs) (i := i) (by omega)
   obtain ⟨q, b1, b2, _, b4⟩ := TH.row.ld itC_len (by decide) hx
   obtain ⟨p, hp⟩ : ∃ p, p = x.2.1 := ⟨_, rfl⟩
   have l1 : ldS ⟨q.block, q.off + 1 + 0, none⟩ H = some p := by rw [hp]; exact b4 1 x.2.1 rfl
   have hwx : ws[i]? = some p := by rw [ews, List.getElem?_map, hx, hp]; rfl
   have et : rpL (ws.take (i + 1)) = insB (rpL (ws.take i)) p := by rw [← rpL_snoc, List.take_add_one, hwx]; rfl
   have hol : (rpL (ws.take i)).length ≤ i := Nat.le_trans (rpL_len _) (by rw [List.length_take]; omega)
   have hri := rpL_rises (ws.take i)
   obtain ⟨os, eos⟩ : ∃ os, os = rpL (ws.take i) := ⟨_, rfl⟩
   rw [← eos] at A et hol hri
   have RA := A.row sC_len
   have RS := rowS RA
   have nk := kp.nx
   refine .bnd rfl (.bnd TH.ld (.ifp (by rw [TH.row.len]; simp; omega) (Gx.Wp.jn fun j15 h15 => .bnd rfl (.bnd TH.ld (.bnd b1 (.bnd l1 (Gx.Wp.jn fun j26 h26 => ?_)))))))
   unfold ref15_Table_Packs_l1
   have hpl := posB_le p os
   obtain ⟨bot2, eb2⟩ := iterK_of (fun _ _ _ _ _ _ => none) (ref15_Table_Packs_l1b k D j26) (show posB p os + 1 ≤ k by omega)
   rw [eb2]
   have fin : Gx.Wp (j26 (some ⟨rb, 0, none⟩) o (i : Int) p ((posB p os : Nat) : Int) H) fun z => AccW 1 sC 9 h.next z.2 z.1 (rpL ws) ∧ Keeps h z.2 := by
    rw [h26]
    refine Gx.Wp.jn fun j34 h34 => ?_
    have no : ¬ p ∈ os → Gx.Wp (j34 (some ⟨rb, 0, none⟩) o (i : Int) p ((posB p os : Nat) : Int) false H) fun z => AccW 1 sC 9 h.next z.2 z.1 (rpL ws) ∧ Keeps h z.2 := fun hm => by
     rw [h34]
     obtain ⟨t1, u1, u2, u3⟩ := takeG sC_len A hpl
     obtain ⟨o1, h4, a1, A1, c1, d1⟩ := appG (bytes := 16) sC_len sC_one (AccW.nil 1 sC 9 h.next H) (os.take (posB p os)) nk (by decide) (by rw [List.length_take]; simp; omega)
     have elen : (os.take (posB p os)).length = posB p os := by rw [List.length_take]; omega
     rw [elen] at a1
     have c1' : Keeps H h4 := c1.wk fun y _ ⟨a, ha, _⟩ => by cases ha
     have d1' : ∀ a, o1.a = some a → H.next ≤ a.block := fun a ha => by
      rcases d1 a ha with q | ⟨b, hb, _⟩
      ·exact q
      ·cases hb
     have nx4 := c1'.nx
     refine .ifn (by decide) (.bnd u1 (.bnd u3 (.bnd (by rw [u2]; exact a1) (Wp.newE fun H5 e5 k5 n5 g5 => ?_))))
     have A1' : AccW 1 sC 9 h.next h4 o1 (os.take (posB p os)) := by simpa using A1
     obtain ⟨o2, h6, a2, A2, c2, d2⟩ := A1'.push sC_len sC_one p (bytes := 16) (by decide) (by rw [elen]; omega) (by omega)
     have eH : H5 = h4.new (.cells (sC p) 9 true 0) := e5
     rw [eH]
     refine .bnd (rdS_oneW sC_len p 9) (.bnd a2 ?_)
     have k6 : Keeps H h6 := c1'.keepsS c2 fun y ⟨a, ha, e⟩ => by rw [e]; exact d1' a ha
     have A6 := A.keeps k6
     have nx6 := k6.nx
     obtain ⟨t2, v1, v2, v3⟩ := dropG sC_len A6 hpl
     obtain ⟨o3, h7, a3, A3, c3, d3⟩ := appG (bytes := 16) sC_len sC_one A2 (os.drop (posB p os)) (by omega) (by decide) (by rw [List.length_append, elen, List.length_drop]; simp; omega)
     rw [List.length_drop] at a3
     refine .bnd v1 (.bnd v3 (.bnd (by rw [v2]; exact a3) ?_))
     have d2' : ∀ a, o2.a = some a → H.next ≤ a.block := fun a ha => by have := d2 a ha; omega
     have k7 : Keeps h h7 := (kp.trans k6).keepsS c3 fun y ⟨a, ha, e⟩ => by rw [e]; have := d2' a ha; omega
     rw [h15]
     dsimp only
     rw [Gx.w1 (by omega)]
     refine ih (i + 1) o3 h7 (by omega) k7 ?_
     rw [et]
     unfold insB
     rw [if_neg hm]; exact A3
    by_cases c : posB p os < os.length
    ·obtain ⟨y, hy⟩ := isome (l := os) (i := posB p os) c
     obtain ⟨q2, d1, d2⟩ := Row.ldS RS hy
     refine .ifp (by rw [RA.len]; simp; omega) (.bnd d1 (.bnd d2 ?_))
     rw [beq_ba]
     by_cases e : y = p
     ·have hm : p ∈ os := by rw [← e]; exact mem_of hy
      rw [h34, h15]
      refine .ifp (by simp [e]) ?_
      dsimp only
      rw [Gx.w1 (by omega)]
      refine ih (i + 1) o H (by omega) kp ?_
      rw [et]; unfold insB; rw [if_pos hm]; exact A
     ·have : ¬ p ∈ os := fun q => by
       have := (posB_mem hri).1 q
       rw [hy] at this; exact e (Option.some.inj this)
      simp only [e, decide_false]
      exact no this
    ·refine .ifn (by rw [RA.len]; simp; omega) (no fun q => ?_)
     have := (posB_mem hri).1 q
     rw [List.getElem?_eq_none (by omega)] at this; cases this
   have srch : ∀ (d j : Nat), j + d = posB p os → Gx.Wp (iterK bot2 (d + 1) (ref15_Table_Packs_l1b k D j26) (some ⟨rb, 0, none⟩) o (i : Int) p (j : Int) H) fun z => AccW 1 sC 9 h.next z.2 z.1 (rpL ws) ∧ Keeps h z.2 := fun d => by
    induction d with
    | zero =>
     intro j hd
     obtain rfl : j = posB p os := by omega
     rw [iterK_s]; simp only [ref15_Table_Packs_l1b]
     refine Gx.Wp.jn fun j60 h60 => ?_
     by_cases c : posB p os < os.length
     ·obtain ⟨y, hy⟩ := isome (l := os) (i := posB p os) c
      obtain ⟨q2, d1, d2⟩ := Row.ldS RS hy
      refine .ifp (by rw [RA.len]; simp; omega) (.bnd d1 (.bnd d2 ?_))
      rw [less_eq, decide_eq_false (posB_at hy), h60]
      exact .ifn (by decide) fin
     ·refine .ifn (by rw [RA.len]; simp; omega) ?_
      rw [h60]
      exact .ifn (by decide) fin
    | succ d ih2 =>
     intro j hd
     rw [iterK_s]; simp only [ref15_Table_Packs_l1b]
     obtain ⟨y, hy⟩ := isome (l := os) (i := j) (by omega)
     obtain ⟨q2, d1, d2⟩ := Row.ldS RS hy
     refine Gx.Wp.jn fun j60 h60 => .ifp (by rw [RA.len]; simp; omega) (.bnd d1 (.bnd d2 ?_))
     rw [less_eq, decide_eq_true (posB_ahead (by omega) hy), h60]
     refine .ifp rfl ?_
     rw [Gx.w1 (by omega)]
     exact ih2 (j + 1) (by omega)
   exact srch (posB p os) 0 (by omega)
 exact loop xs.length 0 ⟨none, 0, 0⟩ h (by omega) (.refl _ _) (AccW.nil _ _ _ _ _)
end
theorem packs_same {F : Nat → List It} : packsL F = rpL ((allF F).map (·.2.1)) := by
 refine rise_eq (packsL_rises F) (rpL_rises _) fun x => ?_
 rw [rpL_mem]
 unfold packsL
 rw [ddL_mem, (sortB_perm _).mem_iff]
theorem mem_places {F : Nat → List It} (hr : RisesT F) (hin : InT F) (id : ByteArray) : placesL (F (idx id)) id = placesL (allF F) id := by
 unfold placesL
 congr 1
 refine rises_ext (filter_rises (hr _ (idx_lt id)) _) (filter_rises (allF_rises hr hin) _) fun x => ?_
 rw [List.mem_filter, List.mem_filter, mem_allF]
 constructor
 ·rintro ⟨h1, h2⟩
  exact ⟨⟨_, idx_lt id, h1⟩, h2⟩
 ·rintro ⟨⟨i, hi, h1⟩, h2⟩
  have e : x.1 = id := by simpa using h2
  have := hin i x hi h1
  rw [e] at this
  exact ⟨this ▸ h1, h2⟩
theorem get_same {F : Nat → List It} (hr : RisesT F) (hin : InT F) (id : ByteArray) : getL (F (idx id)) id = getL (allF F) id := by
 unfold getL; rw [mem_places hr hin id]
theorem add_same {F : Nat → List It} (hr : RisesT F) (hin : InT F) (ys : List It) : allF (addL F ys) = putL (allF F) ys := by
 refine rises_ext (allF_rises (addL_rises hr) (addL_in hin)) (putL_rises (allF_rises hr hin)) fun x => ?_
 rw [mem_allF, putL_mem, mem_allF]
 constructor
 ·rintro ⟨i, hi, h⟩
  rcases addL_mem.1 h with ⟨h1, _⟩ | h1
  ·exact .inl h1
  ·exact .inr ⟨i, hi, h1⟩
 ·rintro (h | ⟨i, hi, h⟩)
  ·exact ⟨idx x.1, idx_lt _, addL_mem.2 (.inl ⟨h, rfl⟩)⟩
  ·exact ⟨i, hi, addL_mem.2 (.inr h)⟩
theorem drop_same {F : Nat → List It} (hr : RisesT F) (hin : InT F) (p : ByteArray) : allF (dropF F p) = (allF F).filter (outP p) := by
 refine rises_ext (allF_rises (dropF_rises hr p) (dropF_in hin p)) (filter_rises (allF_rises hr hin) _) fun x => ?_
 rw [mem_allF, List.mem_filter, mem_allF]
 unfold dropF
 constructor
 ·rintro ⟨i, hi, h⟩
  obtain ⟨h1, h2⟩ := List.mem_filter.1 h
  exact ⟨⟨i, hi, h1⟩, h2⟩
 ·rintro ⟨⟨i, hi, h1⟩, h2⟩
  exact ⟨i, hi, List.mem_filter.2 ⟨h1, h2⟩⟩
end Gc
namespace Gc
open Go Gx Go.RowKit Go.Maps
theorem eqP (x y : Pl) : ((x.1 == y.1) && ((x.2.1 == y.2.1) && ((x.2.2.1 == y.2.2.1) && ((x.2.2.2.1 == y.2.2.2.1) && (x.2.2.2.2 == y.2.2.2.2))))) = decide (x = y) := by
 obtain ⟨a, b, c, d, e⟩ := x
 obtain ⟨a', b', c', d', e'⟩ := y
 simp only [beq_ba, Prod.mk.injEq]
 rw [Bool.eq_iff_iff]
 simp
section
variable {k base rb tb : Nat} {h h' : AHeap} {s t : Slc} {sl : Nat → Slc} {F : Nat → List It}
theorem sameP_spec (D : CallF) {xs ys : List Pl} (R : RowW 5 plC h s xs) (S : RowW 5 plC h t ys) (hl : xs.length + 2 ≤ k) (hb : xs.length ≤ 1000000000) : Gx.Wp (law15_samePlaces k D s t h) fun z => z.1 = decide (xs = ys) ∧ z.2 = h := by
 simp only [law15_samePlaces]
 by_cases hc : xs.length = ys.length
 rotate_left
 ·exact .ifp (by rw [R.len, S.len]; simp; omega) (.of ⟨by symm; exact decide_eq_false (fun e => hc (by rw [e])), rfl⟩)
 refine .ifn (by rw [R.len, S.len]; simp; omega) (Gx.Wp.jn fun j2 h2 => ?_)
 unfold law15_samePlaces_l0
 obtain ⟨bot, eb⟩ := iterK_of (fun _ _ _ _ => none) (law15_samePlaces_l0b k D j2) (show xs.length + 1 ≤ k by omega)
 rw [eb]
 have loop : ∀ (d i : Nat), i + d = xs.length → xs.take i = ys.take i → Gx.Wp (iterK bot (d + 1) (law15_samePlaces_l0b k D j2) s t (i : Int) h) fun z => z.1 = decide (xs = ys) ∧ z.2 = h := fun d => by
  induction d with
  | zero =>
   intro i hd ht
   rw [iterK_s]; simp only [law15_samePlaces_l0b]
   refine .ifn (by rw [R.len]; simp; omega) ?_
   rw [h2]
   rw [List.take_of_length_le (by omega), List.take_of_length_le (by omega)] at ht
   exact .of ⟨by symm; exact decide_eq_true ht, rfl⟩
  | succ d ih =>
   intro i hd ht
   rw [iterK_s]; simp only [law15_samePlaces_l0b]
   obtain ⟨x, hx⟩ := isome (l := xs) (i := i) (by omega)
   obtain ⟨y, hy⟩ := isome (l := ys) (i := i) (by omega)
   obtain ⟨q, b1, b2, _⟩ := R.ld plC_len (by decide) hx
   obtain ⟨q', c1, c2, _⟩ := S.ld plC_len (by decide) hy
   refine .ifp (by rw [R.len]; simp; omega) (.bnd b1 (.bnd b2 (.bnd (decP5 x) (.bnd c1 (.bnd c2 (.bnd (decP5 y) ?_))))))
   rw [eqP]
   by_cases e : x = y
   ·refine .ifn (by simp [e]) ?_
    rw [Gx.w1 (by omega)]
    refine ih (i + 1) (by omega) ?_
    rw [List.take_add_one, List.take_add_one, ht, hx, hy, e]
   ·refine .ifp (by simp [e]) (.of ⟨?_, rfl⟩)
    symm; refine decide_eq_false (fun e2 => e ?_)
    rw [e2, hy] at hx; exact (Option.some.inj hx).symm
 exact loop xs.length 0 (by omega) rfl
theorem sameT_spec (D : CallF) {xs ys : List ByteArray} (R : Row encS h s xs) (S : Row encS h t ys) (hl : xs.length + 2 ≤ k) (hb : xs.length ≤ 1000000000) : Gx.Wp (book_SameTexts k D s t h) fun z => z.1 = decide (xs = ys) ∧ z.2 = h := by
 simp only [book_SameTexts]
 by_cases hc : xs.length = ys.length
 rotate_left
 ·exact .ifp (by rw [R.1, S.1]; simp; omega) (.of ⟨by symm; exact decide_eq_false (fun e => hc (by rw [e])), rfl⟩)
 refine .ifn (by rw [R.1, S.1]; simp; omega) (Gx.Wp.jn fun j2 h2 => ?_)
 unfold book_SameTexts_l0
 obtain ⟨bot, eb⟩ := iterK_of (fun _ _ _ _ => none) (book_SameTexts_l0b k D j2) (show xs.length + 1 ≤ k by omega)
 rw [eb]
 have loop : ∀ (d i : Nat), i + d = xs.length → xs.take i = ys.take i → Gx.Wp (iterK bot (d + 1) (book_SameTexts_l0b k D j2) s t (i : Int) h) fun z => z.1 = decide (xs = ys) ∧ z.2 = h := fun d => by
  induction d with
  | zero =>
   intro i hd ht
   rw [iterK_s]; simp only [book_SameTexts_l0b]
   refine .ifn (by rw [R.1]; simp; omega) ?_
   rw [h2]
   rw [List.take_of_length_le (by omega), List.take_of_length_le (by omega)] at ht
   exact .of ⟨by symm; exact decide_eq_true ht, rfl⟩
  | succ d ih =>
   intro i hd ht
   rw [iterK_s]; simp only [book_SameTexts_l0b]
   obtain ⟨x, hx⟩ := isome (l := xs) (i := i) (by omega)
   obtain ⟨y, hy⟩ := isome (l := ys) (i := i) (by omega)
   obtain ⟨q, b1, b2⟩ := Row.ldS R hx
   obtain ⟨q', c1, c2⟩ := Row.ldS S hy
   refine .ifp (by rw [R.1]; simp; omega) (.bnd b1 (.bnd b2 (.bnd c1 (.bnd c2 ?_))))
   rw [beq_ba]
   by_cases e : x = y
   ·refine .ifn (by simp [e]) ?_
    rw [Gx.w1 (by omega)]
    refine ih (i + 1) (by omega) ?_
    rw [List.take_add_one, List.take_add_one, ht, hx, hy, e]
   ·refine .ifp (by simp [e]) (.of ⟨?_, rfl⟩)
    symm; refine decide_eq_false (fun e2 => e ?_)
    rw [e2, hy] at hx; exact (Option.some.inj hx).symm
 exact loop xs.length 0 (by omega) rfl
theorem spoil_spec (D : CallF) (W : WR 1 h s) (hl : s.len + 2 ≤ k) (hb : s.len ≤ 1000000000) : Gx.Wp (book_SpoilTexts k D s h) fun z => Chg (ofS s) h z.2 := by
 simp only [book_SpoilTexts]
 unfold book_SpoilTexts_l0
 obtain ⟨bot, eb⟩ := iterK_of (fun _ _ _ => none) (book_SpoilTexts_l0b k D) (show s.len + 1 ≤ k by omega)
 rw [eb]
 have loop : ∀ (d i : Nat) (H : AHeap), i + d = s.len → WR 1 H s → Chg (ofS s) h H → Gx.Wp (iterK bot (d + 1) (book_SpoilTexts_l0b k D) s (i : Int) H) fun z => Chg (ofS s) h z.2 := fun d => by
  induction d with
  | zero =>
   intro i H hd W c
   rw [iterK_s]; simp only [book_SpoilTexts_l0b]
   exact .ifn (by simp; omega) (.of c)
  | succ d ih =>
   intro i H hd W c
   rw [iterK_s]; simp only [book_SpoilTexts_l0b]
   obtain ⟨q, h2, e1, e2, W2, c2⟩ := W.poke (i := i) (j := 0) (v := .string ⟨#[115, 112, 111, 105, 108, 116]⟩) (by omega) (by decide) rfl
   have eq : (⟨q.block, q.off + 0, none⟩ : Addr) = q := by
    have := e1
    unfold idxL at this
    split at this
    ·split at this
     ·cases this; rfl
     ·cases this
    ·cases this
   rw [eq] at e2
   refine .ifp (by simp; omega) (.bnd e1 (.bnd e2 ?_))
   rw [Gx.w1 (by omega)]
   exact ih (i + 1) h2 (by omega) W2 (Chg.trans c c2)
 exact loop s.len 0 h (by omega) W (.refl _ _)
theorem spoil1 (D : CallF) (j27) {Q : Bool × AHeap → Prop} (W : WR 5 h s) (hl : s.len + 2 ≤ k) (hb : s.len ≤ 1000000000) (a b c : Slc) (g : Bool) (hj : ∀ H, Chg (ofS s) h H → Gx.Wp (j27 a b c g H) Q) : Gx.Wp (law15_same_l1 k D j27 s a b c g 0 h) Q := by
 unfold law15_same_l1
 obtain ⟨bot, eb⟩ := iterK_of (fun _ _ _ _ _ _ _ => none) (law15_same_l1b k D j27) (show s.len + 1 ≤ k by omega)
 rw [eb]
 have loop : ∀ (d i : Nat) (H : AHeap), i + d = s.len → WR 5 H s → Chg (ofS s) h H → Gx.Wp (iterK bot (d + 1) (law15_same_l1b k D j27) s a b c g (i : Int) H) Q := fun d => by
  induction d with
  | zero =>
   intro i H hd W cc
   rw [iterK_s]; simp only [law15_same_l1b]
   exact .ifn (by simp; omega) (hj H cc)
  | succ d ih =>
   intro i H hd W cc
   rw [iterK_s]; simp only [law15_same_l1b]
   obtain ⟨q, h2, e1, e2, W2, c2⟩ := W.poke (i := i) (j := 2) (v := .int .i64 (-9)) (by omega) (by decide) rfl
   refine .ifp (by simp; omega) (.bnd e1 (.bnd e2 ?_))
   rw [Gx.w1 (by omega)]
   exact ih (i + 1) h2 (by omega) W2 (Chg.trans cc c2)
 exact loop s.len 0 h (by omega) W (.refl _ _)
theorem spoil0 (D : CallF) (j32) {Q : Bool × AHeap → Prop} (W : WR 6 h s) (hl : s.len + 2 ≤ k) (hb : s.len ≤ 1000000000) (a b : Slc) (g : Bool) (hj : ∀ H, Chg (ofS s) h H → Gx.Wp (j32 a b g H) Q) : Gx.Wp (law15_same_l0 k D j32 s a b g 0 h) Q := by
 unfold law15_same_l0
 obtain ⟨bot, eb⟩ := iterK_of (fun _ _ _ _ _ _ => none) (law15_same_l0b k D j32) (show s.len + 1 ≤ k by omega)
 rw [eb]
 have loop : ∀ (d i : Nat) (H : AHeap), i + d = s.len → WR 6 H s → Chg (ofS s) h H → Gx.Wp (iterK bot (d + 1) (law15_same_l0b k D j32) s a b g (i : Int) H) Q := fun d => by
  induction d with
  | zero =>
   intro i H hd W cc
   rw [iterK_s]; simp only [law15_same_l0b]
   exact .ifn (by simp; omega) (hj H cc)
  | succ d ih =>
   intro i H hd W cc
   rw [iterK_s]; simp only [law15_same_l0b]
   obtain ⟨q, h2, e1, e2, W2, c2⟩ := W.poke (i := i) (j := 3) (v := .int .i64 (-9)) (by omega) (by decide) rfl
   refine .ifp (by simp; omega) (.bnd e1 (.bnd (show st1 ⟨q.block, q.off + 1 + 2, none⟩ (.int .i64 (-9)) H = some h2 by rw [Nat.add_assoc]; exact e2) ?_))
   rw [Gx.w1 (by omega)]
   exact ih (i + 1) h2 (by omega) W2 (Chg.trans cc c2)
 exact loop s.len 0 h (by omega) W (.refl _ _)
end
end Gc
namespace Gc
open Go Gx Go.RowKit Go.Maps
section
variable {k base b2 rb tb : Nat} {h : AHeap} {s : Slc} {sl : Nat → Slc} {F : Nat → List It}
theorem alike_spec (hk : 10000 ≤ k) (T : Tab base h tb sl F) (L : LT b2 h rb s (allF F)) (hr : RisesT F) (hin : InT F) (hm : MaxT F 5000) (hc : cntTo F 256 ≤ 5000) (x : It) :
  Gx.Wp (law15_same k (DD k) (some ⟨tb, 0, none⟩) (some ⟨rb, 0, none⟩) x h) fun z => z.1 = true ∧ Keeps h z.2 := by
 simp only [law15_same]
 have hal : (allF F).length = cntTo F 256 := flatTo_len F 256
 have lS : ∀ {H : AHeap} {b o : Nat} {e : TypeId} {c : List Value} {t : ByteArray}, H.get b = some (.cells c e true 0) → c[o]? = some (.string t) → ldS ⟨b, o, none⟩ H = some t := fun hb hc => by simp [ldS, AHeap.rd1, hb, hc, decS]
 refine Wp.newE fun h1 e1 k1 n1 g1 => ?_
 have gx : h1.get h.next = some (.cells (itC x) 57 true 0) := g1
 refine .bnd (lS gx (t := x.1) rfl) (.call (get_spec (T.keeps k1) hr hm (by decide) (by omega) x.1) fun r3 ⟨q3, k3⟩ => ?_)
 rw [q3, get_same hr hin x.1]
 obtain ⟨g, hg⟩ : ∃ g, g = getL (allF F) x.1 := ⟨_, rfl⟩
 rw [← hg]
 have n3 := k3.nx
 have gx3 := k3.got (by omega) gx
 refine Wp.newE fun h4 e4 k4 n4 g4 => Wp.stL g4 rfl rfl rfl (by decide) fun h5 c5 n5 g5 => ?_
 have k5 : Keeps r3.2 h5 := k4.keepsS c5 fun y hy => by subst hy; omega
 have gp : h5.get r3.2.next = some (.cells (plC g.1) 55 true 0) := g5
 have gx5 := k5.got (by omega) gx3
 have kh5 : Keeps h h5 := (k1.trans k3).trans k5
 refine .bnd (lS gx5 (t := x.1) rfl) (.call (rget_spec (k := k) _ (L.keeps kh5) (by omega) (by omega) x.1) fun r7 ⟨q7, k7⟩ => ?_)
 rw [q7, ← hg]
 have n7 := k7.nx
 have gx7 := k7.got (by omega) gx5
 have gp7 := k7.got (by omega) gp
 refine Wp.newE fun h8 e8 k8 n8 g8 => Wp.stL g8 rfl rfl rfl (by decide) fun h9 c9 n9 g9 => ?_
 have k9 : Keeps r7.2 h9 := k8.keepsS c9 fun y hy => by subst hy; omega
 have gq : h9.get r7.2.next = some (.cells (plC g.1) 55 true 0) := g9
 have gx9 := k9.got (by omega) gx7
 have gp9 := k9.got (by omega) gp7
 have kh9 : Keeps h h9 := (kh5.trans k7).trans k9
 have T9 := T.keeps kh9
 have nh9 := kh9.nx
 refine .bnd (lS gx9 (t := x.1) rfl) (.call (places_spec T9 hr hm (by decide) (by omega) x.1) fun r11 ⟨A11, k11⟩ => ?_)
 rw [mem_places hr hin] at A11
 have T11 := T9.keeps k11
 refine .call (all_spec (by omega) _ T11 (by omega)) fun r12 ⟨A12, k12⟩ => ?_
 have T12 := T11.keeps k12
 refine .call (ids_spec (by omega) _ T12 (by omega) (by omega)) fun r13 ⟨A13, k13⟩ => ?_
 have T13 := T12.keeps k13
 refine .call (packs_spec (by omega) _ T13 (by omega) (by omega)) fun r14 ⟨R14, o14, W14, k14⟩ => ?_
 have T14 := T13.keeps k14
 have k914 : Keeps h9 r14.2 := ((k11.trans k12).trans k13).trans k14
 have n11 := k11.nx; have n12 := k12.nx; have n13 := k13.nx; have n14 := k14.nx
 have gx14 := k914.got (by omega) gx9
 have gp14 := k914.got (by omega) gp9
 have gq14 := k914.got (by omega) gq
 have kh14 : Keeps h r14.2 := kh9.trans k914
 have L14 := L.keeps kh14
 have hpl : (placesL (allF F) x.1).length ≤ 5000 := by unfold placesL; rw [List.length_map]; exact Nat.le_trans (List.length_filter_le _ _) (by omega)
 have hil : (ddL ((allF F).map (·.1))).length ≤ 5000 := Nat.le_trans (ddL_len _) (by rw [List.length_map]; omega)
 have hkl : (packsL F).length ≤ 5000 := Nat.le_trans (packsL_len F) hc
 refine Gx.Wp.jn fun j21 h21 => ?_
 have fin : ∀ H, Keeps r14.2 H → Gx.Wp (j21 r11.1 r12.1 r13.1 r14.1 true H) fun z => z.1 = true ∧ Keeps h z.2 := fun H kH => by
  rw [h21]
  have l11 : r11.1.len = (placesL (allF F) x.1).length := (A11.row plC_len).len
  have l12 : r12.1.len = (allF F).length := (A12.row itC_len).len
  have l13 : r13.1.len = (ddL ((allF F).map (·.1))).length := A13.row.1
  have l14 : r14.1.len = (packsL F).length := R14.1
  have nH := kH.nx
  have p11 : ∀ a, r11.1.a = some a → h9.next ≤ a.block ∧ a.block < r11.2.next := fun a ha => ⟨(A11.lt a ha).2, (A11.lt a ha).1⟩
  have p12 : ∀ a, r12.1.a = some a → r11.2.next ≤ a.block ∧ a.block < r12.2.next := fun a ha => ⟨(A12.lt a ha).2, (A12.lt a ha).1⟩
  have p13 : ∀ a, r13.1.a = some a → r12.2.next ≤ a.block ∧ a.block < r13.2.next := fun a ha => ⟨(A13.lt a ha).2, (A13.lt a ha).1⟩
  have W11 : WR 5 H r11.1 := (WR.ofW plC_len A11).chg (((k12.trans k13).trans k14).trans kH) fun a ha => ⟨(p11 a ha).2, fun f => f⟩
  have W12 : WR 6 H r12.1 := (WR.ofW itC_len A12).chg ((k13.trans k14).trans kH) fun a ha => ⟨(p12 a ha).2, fun f => f⟩
  have W13 : WR 1 H r13.1 := (WR.ofA A13).chg (k14.trans kH) fun a ha => ⟨(p13 a ha).2, fun f => f⟩
  have W14' : WR 1 H r14.1 := W14.chg kH fun a ha => ⟨(o14 a ha).2, fun f => f⟩
  refine Gx.Wp.jn fun j27 h27 => spoil1 _ j27 W11 (by omega) (by omega) _ _ _ _ fun H1 c1 => ?_
  have nH1 := c1.nx
  rw [h27]
  refine Gx.Wp.jn fun j32 h32 => spoil0 _ j32 (W12.chg c1 fun a ha => ⟨by have := (p12 a ha).2; omega, fun ⟨b, hb, e⟩ => by have := (p12 a ha).1; have := (p11 b hb).2; omega⟩) (by omega) (by omega) _ _ _ fun H2 c2 => ?_
  have nH2 := c2.nx
  rw [h32]
  have W13b := (W13.chg c1 fun a ha => ⟨by have := (p13 a ha).2; omega, fun ⟨b, hb, e⟩ => by have := (p13 a ha).1; have := (p11 b hb).2; omega⟩).chg c2 fun a ha => ⟨by have := (p13 a ha).2; omega, fun ⟨b, hb, e⟩ => by have := (p13 a ha).1; have := (p12 b hb).2; omega⟩
  have W14b := (W14'.chg c1 fun a ha => ⟨by have := (o14 a ha).2; omega, fun ⟨b, hb, e⟩ => by have := (o14 a ha).1; have := (p11 b hb).2; omega⟩).chg c2 fun a ha => ⟨by have := (o14 a ha).2; omega, fun ⟨b, hb, e⟩ => by have := (o14 a ha).1; have := (p12 b hb).2; omega⟩
  refine .call (spoil_spec _ W13b (by omega) (by omega)) fun r33 c3 => ?_
  have nH3 := c3.nx
  refine .call (spoil_spec _ (W14b.chg c3 fun a ha => ⟨by have := (o14 a ha).2; omega, fun ⟨b, hb, e⟩ => by have := (o14 a ha).1; have := (p13 b hb).2; omega⟩) (by omega) (by omega)) fun r34 c4 => .of ⟨rfl, ?_⟩
  have q1 : Keeps h H1 := (kh14.trans kH).keepsS c1 fun y ⟨a, ha, e⟩ => by have := (p11 a ha).1; omega
  have q2 : Keeps h H2 := q1.keepsS c2 fun y ⟨a, ha, e⟩ => by have := (p12 a ha).1; omega
  have q3 : Keeps h r33.2 := q2.keepsS c3 fun y ⟨a, ha, e⟩ => by have := (p13 a ha).1; omega
  exact q3.keepsS c4 fun y ⟨a, ha, e⟩ => by have := (o14 a ha).1; omega
 refine .bnd (sldA_at gp14 rfl) (.bnd (decP5 g.1) (.bnd (sldA_at gq14 rfl) (.bnd (decP5 g.1) ?_)))
 rw [eqP]
 refine .ifp (by simp) (.ifp (by simp) (.bnd (lS gx14 (t := x.1) rfl) (.call (rplaces_spec _ L14 (by omega) (by omega) x.1) fun r60 ⟨A60, k60⟩ => ?_)))
 refine .call (sameP_spec _ ((A11.row plC_len).keeps (((k12.trans k13).trans k14).trans k60)) (A60.row plC_len) (by omega) (by omega)) fun r61 ⟨q61, e61⟩ => ?_
 rw [q61, e61]
 have L60 := L14.keeps k60
 refine .ifp (by simp) (.bnd rfl (.bnd L60.ld (.call (same_spec _ ((A12.row itC_len).keeps ((k13.trans k14).trans k60)) L60.row (by omega) (by omega)) fun r64 ⟨q64, e64⟩ => ?_)))
 rw [q64, e64]
 refine .ifp (by simp) (.call (rids_spec _ L60 (by omega) (by omega)) fun r65 ⟨A65, k65⟩ => ?_)
 have k6 := k60.trans k65
 refine .call (sameT_spec _ (A13.row.keeps (k14.trans k6)) A65.row (by omega) (by omega)) fun r66 ⟨q66, e66⟩ => ?_
 rw [q66, e66]
 have L65 := L60.keeps k65
 refine .ifp (by simp) (.call (rpacks_spec _ L65 (by omega) (by omega)) fun r67 ⟨A67, k67⟩ => ?_)
 rw [← packs_same] at A67
 have k7' := k6.trans k67
 refine .call (sameT_spec _ (R14.keeps k7') (rowS (A67.row sC_len)) (by omega) (by omega)) fun r68 ⟨q68, e68⟩ => ?_
 rw [q68, e68]
 have L67 := L65.keeps k67
 have T67 := T14.keeps k7'
 refine .ifp (by simp) (.call (len_spec (by omega) _ T67 (by omega)) fun r69 ⟨q69, e69⟩ => ?_)
 rw [q69, e69]
 refine .bnd rfl (.bnd L67.ld (.gp (ssw1 (by rw [L67.ld]; rfl)) ?_))
 have el : ((cntTo F 256 : Int) == (s.len : Int)) = true := by rw [L67.row.len, hal]; simp
 rw [el]
 exact fin r67.2 k7'
end
end Gc
namespace Gc
open Go Gx Go.RowKit Go.Maps
abbrev ItD : DT := .pair .str (.pair (.pair .str (.pair (.int .i64) (.pair (.int .i64) (.pair (.int .i64) (.pair (.int .i64) .unit))))) .unit)
def toIt (x : DT.V ItD) : It := (x.1, x.2.1.1, x.2.1.2.1, x.2.1.2.2.1, x.2.1.2.2.2.1, x.2.1.2.2.2.2.1)
abbrev ActD : DT := .pair (.int .i64) (.pair (.list ItD) .unit)
theorem rep_slc {h : AHeap} {T : DT} {c : Slc} {l : List T.V} (R : Rep h (.list T) l [.slice c.a c.len c.cap]) : c.len = l.length ∧ (∀ a, c.a = some a → a.block < h.next) ∧
  ∀ (i : Nat) (x : T.V), l[i]? = some x → ∃ a cc e r fz cx, c.a = some a ∧ h.get a.block = some (.cells cc e r fz) ∧ cx.length = T.w ∧ (∀ (j : Nat) (v : Value), cx[j]? = some v → cc[a.off + i * T.w + j]? = some v) ∧ Rep h T x cx := by
 obtain ⟨sl, es, hl, hb, hx⟩ := R
 have e0 : c = sl := by
  obtain ⟨a, b, m⟩ := sl
  obtain ⟨a', b', m'⟩ := c
  simp only [List.cons.injEq, Value.slice.injEq, and_true] at es
  obtain ⟨rfl, rfl, rfl⟩ := es
  rfl
 subst e0
 exact ⟨hl, hb, hx⟩
theorem rep_it {h : AHeap} {x : DT.V ItD} {cx : List Value} (R : Rep h ItD x cx) : cx = itC (toIt x) := by
 obtain ⟨c1, c2, rfl, ⟨rfl, z1⟩, c3, c4, rfl, ⟨c5, c6, rfl, ⟨rfl, z2⟩, c7, c8, rfl, ⟨rfl, _⟩, c9, c10, rfl, ⟨rfl, _⟩, c11, c12, rfl, ⟨rfl, _⟩, c13, c14, rfl, ⟨rfl, _⟩, e1⟩, e2⟩ := R
 have e1' : c14 = [] := e1
 have e2' : c4 = [] := e2
 rw [e1', e2']
 rfl
theorem rep_items {h : AHeap} {c : Slc} {l : List (DT.V ItD)} (R : Rep h (.list ItD) l [.slice c.a c.len c.cap]) : RowW 6 itC h c (l.map toIt) ∧ ∀ a, c.a = some a → a.block < h.next := by
 obtain ⟨hl, hb, hx⟩ := rep_slc R
 refine ⟨⟨by rw [List.length_map]; exact hl, fun i y hy => ?_⟩, hb⟩
 rw [List.getElem?_map] at hy
 cases e : l[i]? with
 | none => rw [e] at hy; cases hy
 | some x =>
  rw [e] at hy
  cases hy
  obtain ⟨a, cc, el, r, fz, cx, h1, h2, h3, h4, h5⟩ := hx i x e
  refine ⟨a, cc, el, r, fz, h1, hb a h1, h2, fun j v hj => h4 j v ?_⟩
  rw [rep_it h5]; exact hj
theorem rep_act {h : AHeap} {c : Slc} {l : List (DT.V ActD)} (R : Rep h (.list ActD) l [.slice c.a c.len c.cap]) {i : Nat} {x : DT.V ActD} (hx : l[i]? = some x) :
  ∃ (q : Addr) (t : Slc), Gx.idxL 2 c (i : Int) = some q ∧ RowW 6 itC h t (x.2.1.map toIt) ∧ (∀ a, t.a = some a → a.block < h.next) ∧ ∀ H, Keeps h H → ldI .i64 ⟨q.block, q.off + 0, none⟩ H = some x.1 ∧ ldL ⟨q.block, q.off + 1, none⟩ H = some t := by
 obtain ⟨hl, hb, hr⟩ := rep_slc R
 obtain ⟨a, cc, e, r, fz, cx, h1, h2, h3, h4, h5⟩ := hr i x hx
 obtain ⟨c1, c2, e1, ⟨e2, _⟩, c3, c4, e3, hin, e5⟩ := h5
 have e5' : c4 = [] := e5
 obtain ⟨t, e4, hin2⟩ : ∃ t : Slc, c3 = [.slice t.a t.len t.cap] ∧ Rep h (.list ItD) x.2.1 [.slice t.a t.len t.cap] := by
  have hin3 := hin
  obtain ⟨t, e4, _⟩ := hin3
  exact ⟨t, e4, e4 ▸ hin⟩
 obtain ⟨Ri, bi⟩ := rep_items hin2
 have hi : i < c.len := by rw [hl]; exact (List.getElem?_eq_some_iff.1 hx).1
 have ecx : cx = [.int .i64 x.1, .slice t.a t.len t.cap] := by rw [e1, e2, e3, e4, e5']; rfl
 have g0 := h4 0 (.int .i64 x.1) (by rw [ecx]; rfl)
 have g1 := h4 1 (.slice t.a t.len t.cap) (by rw [ecx]; rfl)
 refine ⟨⟨a.block, a.off + i * 2, none⟩, t, ?_, Ri, bi, fun H k => ⟨sldI_at (k.got (hb a h1) h2) g0, sldL_at (k.got (hb a h1) h2) g1⟩⟩
 simp only [idxL, h1]
 rw [if_pos (by omega), Int.toNat_natCast]
theorem RowW.rdAll {α : Type} {w : Nat} {enc : α → List Value} {h : AHeap} {s : Slc} {xs : List α} (R : RowW w enc h s xs) (hw : ∀ x, (enc x).length = w) (hw0 : 0 < w) : Gx.rdS w s h = some (xs.flatMap enc) := by
 unfold Gx.rdS
 rw [R.len]
 by_cases c : xs = []
 ·subst c
  simp only [List.length_nil, Nat.zero_mul, List.flatMap_nil]
  cases s.a <;> rfl
 ·have hp : 0 < xs.length := List.length_pos_iff.2 c
  obtain ⟨x0, hx0⟩ := isome (l := xs) (i := 0) hp
  obtain ⟨a, cc, e, r, fz, h1, h2, h3, _⟩ := R.at' 0 x0 hx0
  have all : ∀ (i : Nat) (x : α), xs[i]? = some x → ∀ (j : Nat) (v : Value), (enc x)[j]? = some v → cc[a.off + i * w + j]? = some v := fun i x hx j v hj => by
   obtain ⟨a', cc', e', r', fz', g1, g2, g3, g4⟩ := R.at' i x hx
   rw [h1] at g1; cases g1
   rw [h3] at g3; cases g3
   exact g4 j v hj
  have hlen : a.off + xs.length * w ≤ cc.length := by
   obtain ⟨x, hx⟩ := isome (l := xs) (i := xs.length - 1) (by omega)
   obtain ⟨v, hv⟩ := isome (l := enc x) (i := w - 1) (by rw [hw]; omega)
   have := (List.getElem?_eq_some_iff.1 (all _ x hx _ v hv)).1
   have e2 : (xs.length - 1) * w + w = xs.length * w := by rw [← Nat.succ_mul]; congr 1; omega
   omega
  rw [h1]
  show h.rdL a.block a.off (xs.length * w) = _
  rw [rdL_ok h3 hlen]
  congr 1
  apply List.ext_getElem?
  intro m
  rw [List.getElem?_take]
  by_cases hm : m < xs.length * w
  ·rw [if_pos hm, List.getElem?_drop]
   have hd : m / w < xs.length := (Nat.div_lt_iff_lt_mul hw0).2 hm
   have hmod := Nat.mod_lt m hw0
   have em : m / w * w + m % w = m := by rw [Nat.mul_comm]; exact Nat.div_add_mod m w
   obtain ⟨x, hx⟩ := isome (l := xs) (i := m / w) hd
   obtain ⟨v, hv⟩ := isome (l := enc x) (i := m % w) (by rw [hw]; exact hmod)
   have g1 := all _ x hx _ v hv
   have g2 := flatW_get hw hx _ v hv
   rw [em] at g2
   rw [Nat.add_assoc, em] at g1
   rw [g1, g2]
  ·rw [if_neg hm, List.getElem?_eq_none (by rw [flatW_length hw]; omega)]
theorem cnt_get (F : Nat → List It) {i : Nat} (hi : i < 256) : (F i).length ≤ cntTo F 256 := by
 have := cntTo_mono F (show i + 1 ≤ 256 by omega)
 rw [cntTo_s] at this; omega
theorem max_cnt {F : Nat → List It} {n : Nat} (h : cntTo F 256 ≤ n) : MaxT F n := fun _ hi => Nat.le_trans (cnt_get F hi) h
theorem drop_count {F : Nat → List It} (hr : RisesT F) (hin : InT F) (p : ByteArray) : cntTo F 256 - cntTo (dropF F p) 256 = (allF F).length - ((allF F).filter (outP p)).length := by
 rw [← drop_same hr hin, ← flatTo_len, ← flatTo_len]; rfl
theorem own_copy {H H1 : AHeap} {t : Slc} {ys : List It} (R : RowW 6 itC H1 t ys) (k1 : Keeps H H1) (n1 : H1.next = H.next + 1) (hl : ys.length ≤ 1000000) (_g1 : H1.get H.next = some (.cells [] 57 true 0)) :
  ∃ o h2, appendA 6 64 57 H1 ⟨some ⟨H.next, 0, some 0⟩, 0, 0⟩ (ys.flatMap itC) ys.length = some (o, h2) ∧ RowW 6 itC h2 o ys ∧ Keeps H h2 ∧ ∀ a, o.a = some a → H.next ≤ a.block ∧ a.block < h2.next := by
 by_cases c : ys = []
 ·subst c
  exact ⟨⟨some ⟨H.next, 0, some 0⟩, 0, 0⟩, H1, rfl, RowW.nil _ _ _ _ _, k1, fun a ha => by cases ha; exact ⟨Nat.le_refl _, by show H.next < H1.next; omega⟩⟩
 ·have hp : 0 < ys.length := List.length_pos_iff.2 c
  refine ⟨⟨some ⟨H1.next, 0, some 7⟩, ys.length, ys.length⟩, H1.new (.cells (ys.flatMap itC) 57 true 0), ?_, ?_, k1.trans (Keeps.new H1 _), fun a ha => by cases ha; exact ⟨by show H.next ≤ H1.next; omega, Nat.lt_succ_self _⟩⟩
  ·unfold appendA
   rw [if_neg (by show ¬ 0 + ys.length ≤ 0; omega), if_pos (by show 2 * (0 + ys.length) * 64 ≤ 281474976710656 ∧ 1 ≤ 64; omega)]
   show (H1.rdL H.next 0 (0 * 6)).bind _ = _
   rw [show H1.rdL H.next 0 (0 * 6) = some [] from rfl]
   show some _ = some _
   simp only [Nat.zero_add, List.nil_append]
  ·have := rowW_blk (h := H1.new (.cells (ys.flatMap itC) 57 true 0)) (w := 6) (enc := itC) itC_len (b := H1.next) (n := ys.length) (cap := ys.length) (sp := some 7) (ys := ys) (e := 57) (r := true) (fz := 0) (by simp) (Nat.lt_succ_self _) (Nat.le_refl _)
   rw [List.take_length] at this
   exact this
end Gc
namespace Gc
open Go Gx Go.RowKit Go.Maps
abbrev Tr := Int × Int × Int × Unit
abbrev T3 : DT := .pair (.int .i64) (.pair (.int .i64) (.pair (.int .i64) .unit))
end Gc
namespace Gc
open Go Gx Go.RowKit Go.Maps
def e0F : Nat → List It := fun _ => []
theorem e0_rises : RisesT e0F := fun _ _ => List.Pairwise.nil
theorem e0_in : InT e0F := fun _ _ _ h => by cases h
structure Two (h H : AHeap) (ta tb : Nat) (sla slb : Nat → Slc) (Fa Fb : Nat → List It) : Prop where
 A : Tab h.next H ta sla Fa
 B : Tab h.next H tb slb Fb
 ap : ∀ y, TOwn ta sla y → ¬ TOwn tb slb y
 kp : Keeps h H
section
variable {k ta tb : Nat} {h H H' : AHeap} {sla slb sl' : Nat → Slc} {Fa Fb F' : Nat → List It} {s : Slc} {l : List Tr}
theorem Two.keeps (W : Two h H ta tb sla slb Fa Fb) (c : Keeps H H') : Two h H' ta tb sla slb Fa Fb := ⟨W.A.keeps c, W.B.keeps c, W.ap, W.kp.trans c⟩
end
end Gc
namespace Gc
open Go Gx Go.RowKit Go.Maps
section
variable {k ta tb : Nat} {h H H' : AHeap} {sla slb sl' : Nat → Slc} {Fa Fb F' : Nat → List It} {s t : Slc} {l : List Tr} {xs : List It}
end
end Gc
namespace Gc
open Go Gx Go.RowKit Go.Maps
section
variable {k : Nat} {h : AHeap} {s : Slc} {l : List Tr}
theorem cnt_fill {xs : List It} {n : Nat} (hn : xs.length ≤ n) : ∀ (F : Nat → List It) (m : Nat), cntTo F 256 ≤ m → cntTo (addL F xs) 256 ≤ m + n := by
 induction xs generalizing n with
 | nil => intro F m hm; show cntTo F 256 ≤ _; omega
 | cons x xs ih =>
  intro F m hm
  have h1 : cntTo (addF F x) 256 ≤ m + 1 := by
   have : ∀ j, j ≤ 256 → cntTo (addF F x) j ≤ cntTo F j + (if idx x.1 < j then 1 else 0) := fun j => by
    induction j with
    | zero => intro _; simp [cntTo]
    | succ j ihj =>
     intro hj
     have := ihj (by omega)
     rw [cntTo_s, cntTo_s]
     by_cases e : j = idx x.1
     ·subst e
      rw [if_neg (Nat.lt_irrefl _)] at this
      rw [if_pos (Nat.lt_succ_self _)]
      have : (addF F x (idx x.1)).length ≤ (F (idx x.1)).length + 1 := by unfold addF upd; rw [if_pos rfl]; exact put_len _ _
      omega
     ·have e2 : (addF F x j) = F j := by unfold addF upd; rw [if_neg e]
      rw [e2]
      by_cases e3 : idx x.1 < j
      ·rw [if_pos e3] at this; rw [if_pos (by omega)]; omega
      ·rw [if_neg e3] at this; rw [if_neg (by omega)]; omega
   have := this 256 (Nat.le_refl _)
   rw [if_pos (idx_lt _)] at this
   omega
  have := ih (n := n - 1) (by simp at hn; omega) (addF F x) (m + 1) h1
  simp at hn
  show cntTo (addL (addF F x) xs) 256 ≤ _
  omega
theorem cnt_e0 : cntTo e0F 256 = 0 := cnt_nil fun _ _ => rfl
end
end Gc
