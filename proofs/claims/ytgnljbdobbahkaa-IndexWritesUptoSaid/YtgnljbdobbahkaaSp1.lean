import Derived.Sort.Walk0
import Derived.Test.YtgnljbdobbahkaaFn1
namespace Gc
open Go Gx
theorem less_eq (a b : ByteArray) : Op.bytesLess a.toList b.toList = decide (bl a < bl b) := by
 rw [Go.Proofs.bytesLess_eq, ByteArray.toList_eq, ByteArray.toList_eq]; rfl
theorem beq_ba (a b : ByteArray) : (a == b) = decide (a = b) := by
 have e : (a == b) = (a.data == b.data) := rfl
 rw [e]
 by_cases h : a = b
 ·subst h; simp
 ·have : ¬ a.data = b.data := fun e => h (by cases a; cases b; simp at e; rw [e])
  simp [h, this]
abbrev It := ByteArray × ByteArray × Int × Int × Int × Int
def itC (x : It) : List Value := [.string x.1, .string x.2.1, .int .i64 x.2.2.1, .int .i64 x.2.2.2.1, .int .i64 x.2.2.2.2.1, .int .i64 x.2.2.2.2.2]
theorem itC_len (x : It) : (itC x).length = 6 := rfl
theorem itC_one (x : It) : allOne (itC x) = true := rfl
def cmpB (a b : ByteArray) : Int := if bl a < bl b then -1 else if a = b then 0 else 1
def cmpI (a b : Int) : Int := if a < b then -1 else if a = b then 0 else 1
def orL : List Int → Int
 | [] => 0
 | c :: l => if c ≠ 0 then c else orL l
def ordL (x y : It) : List Int := [cmpB x.1 y.1, cmpB x.2.1 y.2.1, cmpI x.2.2.2.1 y.2.2.2.1, cmpI x.2.2.2.2.1 y.2.2.2.2.1, cmpI x.2.2.2.2.2 y.2.2.2.2.2, cmpI x.2.2.1 y.2.2.1]
def ord (x y : It) : Int := orL (ordL x y)
def lessI (x y : It) : Bool := decide (ord x y < 0)
section
variable (k : Nat) (D : CallF)
theorem cmpS_spec (a b : ByteArray) (h : AHeap) : cmp_Compare_string k D a b h = some (cmpB a b, h) := by
 simp only [cmp_Compare_string, cmp_isNaN_string, Option.bind_some, beq_ba, less_eq, cmpB]
 by_cases c : bl a < bl b
 ·simp [c]
 ·by_cases e : a = b
  ·simp [e, List.lt_irrefl]
  ·simp [c, e]
theorem cmpN_spec (a b : Int) (h : AHeap) : cmp_Compare_int k D a b h = some (cmpI a b, h) := by
 simp only [cmp_Compare_int, cmp_isNaN_int, Option.bind_some, cmpI]
 by_cases c : a < b
 ·simp [c]
 ·by_cases e : a = b
  ·simp [e]
  ·have : b < a := by omega
   simp [c, e, this]
theorem or_spec {k : Nat} (hk : 100 ≤ k) {h : AHeap} {s : Slc} {xs : List Int} (R : Row encI h s xs) (hl : xs.length < 90) : cmp_Or_int k D s h = some (orL xs, h) := by
 simp only [cmp_Or_int]
 refine jn ?_
 unfold cmp_Or_int_l0
 generalize hj : (fun (zero1 : Int) (h2 : AHeap) => some (zero1, h2)) = j
 obtain ⟨bot, eb⟩ := iterK_of (fun _ _ _ _ _ => none) (cmp_Or_int_l0b k D j) (show xs.length + 1 ≤ k by omega)
 rw [eb]
 have loop : ∀ (d i : Nat), i + d = xs.length → iterK bot (d + 1) (cmp_Or_int_l0b k D j) 0 s (s.len : Int) (i : Int) h = some (orL (xs.drop i), h) := fun d => by
  induction d with
  | zero =>
   intro i hd
   obtain rfl : i = xs.length := by omega
   rw [iterK_s, List.drop_length]; simp only [cmp_Or_int_l0b]
   subst hj
   exact ifn (by rw [R.1]; simp) rfl
  | succ d ih =>
   intro i hd
   rw [iterK_s]; simp only [cmp_Or_int_l0b]
   obtain ⟨x, hx⟩ := isome (l := xs) (i := i) (by omega)
   obtain ⟨p, b1, b2⟩ := R.ldI hx
   refine ifp (by rw [R.1]; simp; omega) (bnd b1 (bnd b2 ?_))
   rw [dropc hx]
   by_cases c : x = 0
   ·refine ifn (by simp [c]) ?_
    rw [Gx.w1 (by omega), ih (i + 1) (by omega)]
    simp [orL, c]
   ·exact ifp (by simp [c]) (by simp [orL, c])
 exact loop xs.length 0 (by omega)
theorem ssw {hs : List AHeap} {H : AHeap} {F : AHeap → Option Value} {v : Value} (hh : ∀ x ∈ hs, x = H) (h : F H = some v) : SameW hs F v := fun x hx => by rw [hh x hx]; exact h
theorem order_spec {k : Nat} (hk : 100 ≤ k) (x y : It) (h : AHeap) : Gx.Wp (lookup_order k D x y h) fun z => z.1 = ord x y ∧ Keeps h z.2 := by
 simp only [lookup_order]
 refine Wp.newE fun H1 e1 k1 n1 g1 => Wp.newE fun H2 e2 k2 n2 g2 => ?_
 have gx : H2.get h.next = some (.cells (itC x) 57 true 0) := k2.got (by omega) g1
 have gy : H2.get H1.next = some (.cells (itC y) 57 true 0) := g2
 have lS : ∀ {b o : Nat} {c : List Value} {t : ByteArray}, H2.get b = some (.cells c 57 true 0) → c[o]? = some (.string t) → ldS ⟨b, o, none⟩ H2 = some t := fun hb hc => by simp [ldS, AHeap.rd1, hb, hc, decS]
 have lI : ∀ {b o : Nat} {c : List Value} {t : Int}, H2.get b = some (.cells c 57 true 0) → c[o]? = some (.int .i64 t) → ldI .i64 ⟨b, o, none⟩ H2 = some t := fun hb hc => sldI_at hb hc
 have x1 := lS (o := 0) gx rfl; have x2 := lS (o := 1) gx rfl; have x3 := lI (o := 3) gx rfl; have x4 := lI (o := 4) gx rfl; have x5 := lI (o := 5) gx rfl; have x6 := lI (o := 2) gx rfl
 have y1 := lS (o := 0) gy rfl; have y2 := lS (o := 1) gy rfl; have y3 := lI (o := 3) gy rfl; have y4 := lI (o := 4) gy rfl; have y5 := lI (o := 5) gy rfl; have y6 := lI (o := 2) gy rfl
 refine .bnd x1 (.bnd y1 (.bnd (cmpS_spec k D _ _ _) ?_))
 refine .bnd x2 (.gp (ssw (H := H2) (by simp) (by rw [x2]; rfl)) (.bnd y2 (.gp (ssw (H := H2) (by simp) (by rw [y2]; rfl)) (.bnd (cmpS_spec k D _ _ _) ?_))))
 refine .bnd x3 (.gp (ssw (H := H2) (by simp) (by rw [x3]; rfl)) (.bnd y3 (.gp (ssw (H := H2) (by simp) (by rw [y3]; rfl)) (.bnd (cmpN_spec k D _ _ _) ?_))))
 refine .bnd x4 (.gp (ssw (H := H2) (by simp) (by rw [x4]; rfl)) (.bnd y4 (.gp (ssw (H := H2) (by simp) (by rw [y4]; rfl)) (.bnd (cmpN_spec k D _ _ _) ?_))))
 refine .bnd x5 (.gp (ssw (H := H2) (by simp) (by rw [x5]; rfl)) (.bnd y5 (.gp (ssw (H := H2) (by simp) (by rw [y5]; rfl)) (.bnd (cmpN_spec k D _ _ _) ?_))))
 refine .bnd x6 (.gp (ssw (H := H2) (by simp) (by rw [x6]; rfl)) (.bnd y6 (.gp (ssw (H := H2) (by simp) (by rw [y6]; rfl)) (.bnd (cmpN_spec k D _ _ _) ?_))))
 refine Wp.newE fun H3 e3 k3 n3 g3 => ?_
 have R : Row encI H3 (⟨some ⟨H2.next, 0, some 0⟩, 6, 6⟩ : Slc) (ordL x y) := Row.of_block (xs := ordL x y) (o := 0) g3 (by rw [n3]; exact Nat.lt_succ_self H2.next) fun i z hz => by
  match i with
  | 0 => cases hz; rfl
  | 1 => cases hz; rfl
  | 2 => cases hz; rfl
  | 3 => cases hz; rfl
  | 4 => cases hz; rfl
  | 5 => cases hz; rfl
  | i + 6 => simp [ordL] at hz
 exact .bnd (or_spec D hk R (by simp [ordL])) (.of ⟨rfl, (k1.trans k2).trans k3⟩)
theorem decI6 (x : It) : decC [.s, .s, .i .i64, .i .i64, .i .i64, .i .i64] (itC x) = some x := rfl
theorem less_spec {k : Nat} (hk : 100 ≤ k) (x y : It) (h : AHeap) : Gx.Wp (lookup_Less k D x y h) fun z => z.1 = lessI x y ∧ Keeps h z.2 := by
 simp only [lookup_Less]
 refine Wp.newE fun H1 e1 k1 n1 g1 => Wp.newE fun H2 e2 k2 n2 g2 => ?_
 have gx : H2.get h.next = some (.cells (itC x) 57 true 0) := k2.got (by omega) g1
 refine .bnd (sldA_at gx rfl) (.bnd (decI6 x) (.bnd (sldA_at g2 rfl) (.bnd (decI6 y) (.call (order_spec D hk x y H2) fun r ⟨q1, q2⟩ => .of ⟨?_, (k1.trans k2).trans q2⟩))))
 show decide (r.1 < 0) = _
 rw [q1]; rfl
end
end Gc
namespace Gc
open Go Gx
def okI (x : It) : Prop := x.1.size = 32 ∧ x.2.1.size = 32 ∧ (x.2.2.1 = 1 ∨ x.2.2.1 = 2) ∧ (0 ≤ x.2.2.2.1 ∧ x.2.2.2.1 ≤ 65536) ∧ (1 ≤ x.2.2.2.2.1 ∧ x.2.2.2.2.1 ≤ 65536) ∧ (0 ≤ x.2.2.2.2.2 ∧ x.2.2.2.2.2 ≤ 65536)
instance (x : It) : Decidable (okI x) := by unfold okI; exact inferInstance
def chkI (x : It) : Int := if okI x then 0 else 1
section
variable (k : Nat) (D : CallF)
theorem within_spec (n l : Int) (h : AHeap) : lookup_within k D n l h = some (decide (l ≤ n ∧ n ≤ 65536), h) := by
 simp only [lookup_within]
 by_cases c : l ≤ n
 ·simp [c]
 ·simp [c]
theorem check_spec (x : It) (h : AHeap) : Gx.Wp (lookup_Check k D x h) fun z => z.1 = chkI x ∧ Keeps h z.2 := by
 simp only [lookup_Check]
 refine Wp.newE fun H1 e1 k1 n1 g1 => Wp.jn fun j5 h5 => ?_
 have gx : H1.get h.next = some (.cells (itC x) 57 true 0) := g1
 have lS : ∀ {o : Nat} {t : ByteArray}, (itC x)[o]? = some (.string t) → ldS ⟨h.next, o, none⟩ H1 = some t := fun hc => by simp [ldS, AHeap.rd1, gx, hc, decS]
 have lI : ∀ {o : Nat} {t : Int}, (itC x)[o]? = some (.int .i64 t) → ldI .i64 ⟨h.next, o, none⟩ H1 = some t := fun hc => sldI_at gx hc
 have J : ∀ kd : Bool, (kd = true ↔ (x.2.2.1 = 1 ∨ x.2.2.1 = 2)) → Gx.Wp (j5 (some ⟨h.next, 0, none⟩) kd H1) fun z => z.1 = chkI x ∧ Keeps h z.2 := by
  intro kd hkd
  rw [h5]
  refine Wp.jn fun j8 h8 => ?_
  have j8t : ¬ okI x → Gx.Wp (j8 true H1) fun z => z.1 = chkI x ∧ Keeps h z.2 := fun hn => by rw [h8]; exact .of ⟨by simp [chkI, hn], k1⟩
  have j8f : okI x → Gx.Wp (j8 false H1) fun z => z.1 = chkI x ∧ Keeps h z.2 := fun hn => by rw [h8]; exact .of ⟨by simp [chkI, hn], k1⟩
  refine .bnd rfl (.bnd (lS (o := 0) rfl) (.bnd rfl ?_))
  by_cases c1 : x.1.size = 32
  rotate_left
  ·exact .ifp (by simp; omega) (j8t fun q => c1 q.1)
  refine .ifn (by simp [c1]) (.bnd rfl (.bnd (lS (o := 1) rfl) (.bnd rfl ?_)))
  by_cases c2 : x.2.1.size = 32
  rotate_left
  ·exact .ifp (by simp; omega) (j8t fun q => c2 q.2.1)
  refine .ifn (by simp [c2]) ?_
  by_cases c3 : kd = true
  rotate_left
  ·exact .ifp (by simpa using c3) (j8t fun q => c3 (hkd.2 q.2.2.1))
  refine .ifn (by simp [c3]) (.bnd rfl (.bnd (lI (o := 3) rfl) (.bnd (within_spec k D _ _ _) ?_)))
  by_cases c4 : 0 ≤ x.2.2.2.1 ∧ x.2.2.2.1 ≤ 65536
  rotate_left
  ·exact .ifp (by simp only [c4, decide_false, Bool.not_false]) (j8t fun q => c4 q.2.2.2.1)
  refine .ifn (by simp [c4]) (.bnd rfl (.bnd (lI (o := 4) rfl) (.bnd (within_spec k D _ _ _) ?_)))
  by_cases c5 : 1 ≤ x.2.2.2.2.1 ∧ x.2.2.2.2.1 ≤ 65536
  rotate_left
  ·exact .ifp (by simp only [c5, decide_false, Bool.not_false]) (j8t fun q => c5 q.2.2.2.2.1)
  refine .ifn (by simp [c5]) (.bnd rfl (.bnd (lI (o := 5) rfl) (.bnd (within_spec k D _ _ _) ?_)))
  by_cases c6 : 0 ≤ x.2.2.2.2.2 ∧ x.2.2.2.2.2 ≤ 65536
  ·simp only [c6, and_self, decide_true, Bool.not_true]
   exact j8f ⟨c1, c2, hkd.1 c3, c4, c5, c6⟩
  ·simp only [c6, decide_false, Bool.not_false]
   exact j8t fun q => c6 q.2.2.2.2.2
 refine .bnd (lI (o := 2) rfl) ?_
 by_cases c : x.2.2.1 = 1
 ·exact .ifp (by simpa using c) (J true (by simp [c]))
 ·exact .ifn (by simpa using c) (.bnd (lI (o := 2) rfl) (J _ (by simp [c])))
theorem known_spec (n : Int) (h : AHeap) : ref13_Known k D n h = some (decide (n = 1 ∨ n = 2), h) := by
 simp only [ref13_Known]
 by_cases c : n = 1
 ·simp [c]
 ·by_cases d : n = 2 <;> simp [c, d]
theorem rcheck_spec (x : It) (h : AHeap) : Gx.Wp (ref15_Check k D x h) fun z => z.1 = chkI x ∧ Keeps h z.2 := by
 simp only [ref15_Check]
 refine Wp.newE fun H1 e1 k1 n1 g1 => ?_
 have gx : H1.get h.next = some (.cells (itC x) 57 true 0) := g1
 have ld5 : ldA 5 ⟨h.next, 1, none⟩ H1 = some ((itC x).drop 1) := by simp only [ldA, AHeap.rdL, gx]; rfl
 refine .bnd ld5 (.bnd (show decC [.s, .i .i64, .i .i64, .i .i64, .i .i64] ((itC x).drop 1) = some x.2 from rfl) (Wp.newE fun H2 e2 k2 n2 g2 => ?_))
 refine Wp.stL g2 rfl rfl rfl (by decide) fun H3 c3 n3 g3 => Wp.jn fun j9 h9 => ?_
 have k3 : Keeps h H3 := (k1.trans k2).keepsS c3 fun y hy => by subst hy; omega
 have gx3 : H3.get h.next = some (.cells (itC x) 57 true 0) := c3.got (by omega) (by omega) (k2.got (by omega) gx)
 have ga3 : H3.get H1.next = some (.cells ((itC x).drop 1) 55 true 0) := g3
 have lI : ∀ {o : Nat} {t : Int}, ((itC x).drop 1)[o]? = some (.int .i64 t) → ldI .i64 ⟨H1.next, o, none⟩ H3 = some t := fun hc => sldI_at ga3 hc
 have j9t : ¬ okI x → Gx.Wp (j9 (some ⟨H1.next, 0, none⟩) true H3) fun z => z.1 = chkI x ∧ Keeps h z.2 := fun hn => by rw [h9]; exact .ifp rfl (.of ⟨by simp [chkI, hn], k3⟩)
 refine .bnd (show ldS ⟨h.next, 0, none⟩ H3 = some x.1 by simp [ldS, AHeap.rd1, gx3, itC, decS]) ?_
 by_cases c1 : x.1.size = 32
 rotate_left
 ·exact .ifp (by simp; omega) (j9t fun q => c1 q.1)
 refine .ifn (by simp [c1]) (.bnd (show ldS ⟨H1.next, 0, none⟩ H3 = some x.2.1 by simp [ldS, AHeap.rd1, ga3, itC, decS]) ?_)
 by_cases c2 : x.2.1.size = 32
 rotate_left
 ·exact .ifp (by simp; omega) (j9t fun q => c2 q.2.1)
 refine .ifn (by simp [c2]) (.bnd (lI (o := 1) rfl) (.bnd (known_spec k D _ _) ?_))
 by_cases c3' : x.2.2.1 = 1 ∨ x.2.2.1 = 2
 rotate_left
 ·simp only [c3', decide_false, Bool.not_false]; exact j9t fun q => c3' q.2.2.1
 simp only [c3', decide_true, Bool.not_true]
 rw [h9]
 refine .ifn (by decide) (Wp.jn fun j12 h12 => ?_)
 have jt : ¬ okI x → Gx.Wp (j12 true H3) fun z => z.1 = chkI x ∧ Keeps h z.2 := fun hn => by rw [h12]; exact .of ⟨by simp [chkI, hn], k3⟩
 have jf : okI x → Gx.Wp (j12 false H3) fun z => z.1 = chkI x ∧ Keeps h z.2 := fun hn => by rw [h12]; exact .of ⟨by simp [chkI, hn], k3⟩
 refine .bnd rfl (.bnd (lI (o := 2) rfl) ?_)
 by_cases d1 : x.2.2.2.1 < 0
 ·exact .ifp (by simpa using d1) (jt fun q => by have := q.2.2.2.1; omega)
 refine .ifn (by simpa using d1) (.bnd rfl (.bnd (lI (o := 2) rfl) ?_))
 by_cases d2 : x.2.2.2.1 > 65536
 ·exact .ifp (by simpa using d2) (jt fun q => by have := q.2.2.2.1; omega)
 refine .ifn (by simpa using d2) (.bnd rfl (.bnd (lI (o := 3) rfl) ?_))
 by_cases d3 : x.2.2.2.2.1 < 1
 ·exact .ifp (by simpa using d3) (jt fun q => by have := q.2.2.2.2.1; omega)
 refine .ifn (by simpa using d3) (.bnd rfl (.bnd (lI (o := 3) rfl) ?_))
 by_cases d4 : x.2.2.2.2.1 > 65536
 ·exact .ifp (by simpa using d4) (jt fun q => by have := q.2.2.2.2.1; omega)
 refine .ifn (by simpa using d4) (.bnd rfl (.bnd (lI (o := 4) rfl) ?_))
 by_cases d5 : x.2.2.2.2.2 < 0
 ·exact .ifp (by simpa using d5) (jt fun q => by have := q.2.2.2.2.2; omega)
 refine .ifn (by simpa using d5) (.bnd rfl (.bnd (lI (o := 4) rfl) ?_))
 by_cases d6 : x.2.2.2.2.2 > 65536
 ·simp only [d6, decide_true]; exact jt fun q => by have := q.2.2.2.2.2; omega
 ·simp only [d6, decide_false]; exact jf ⟨c1, c2, c3', by omega, by omega, by omega⟩
def rlessI (x y : It) : Bool :=
 if x.1 ≠ y.1 then decide (bl x.1 < bl y.1) else if x.2.1 ≠ y.2.1 then decide (bl x.2.1 < bl y.2.1) else
 if x.2.2.2.1 ≠ y.2.2.2.1 then decide (x.2.2.2.1 < y.2.2.2.1) else if x.2.2.2.2.1 ≠ y.2.2.2.2.1 then decide (x.2.2.2.2.1 < y.2.2.2.2.1) else
 if x.2.2.2.2.2 ≠ y.2.2.2.2.2 then decide (x.2.2.2.2.2 < y.2.2.2.2.2) else decide (x.2.2.1 < y.2.2.1)
theorem cmpB_zero {a b : ByteArray} : cmpB a b = 0 ↔ a = b := by
 unfold cmpB
 by_cases c : bl a < bl b
 ·simp only [c, if_true]
  constructor
  ·intro h; omega
  ·rintro rfl; exact absurd c (List.lt_irrefl _)
 ·by_cases e : a = b <;> simp [c, e]
theorem cmpB_neg {a b : ByteArray} : cmpB a b < 0 ↔ bl a < bl b := by
 unfold cmpB
 by_cases c : bl a < bl b
 ·simp [c]
 ·by_cases e : a = b
  ·subst e; simp [List.lt_irrefl]
  ·simp [c, e]
theorem cmpI_zero {a b : Int} : cmpI a b = 0 ↔ a = b := by
 unfold cmpI
 by_cases c : a < b
 ·simp [c]; omega
 ·by_cases e : a = b <;> simp [c, e]
theorem cmpI_neg {a b : Int} : cmpI a b < 0 ↔ a < b := by
 unfold cmpI
 by_cases c : a < b
 ·simp [c]
 ·by_cases e : a = b <;> simp [c, e]
theorem less_same (x y : It) : lessI x y = rlessI x y := by
 unfold lessI rlessI ord ordL
 simp only [orL, ne_eq, cmpB_zero, cmpI_zero]
 by_cases c1 : x.1 = y.1
 rotate_left
 ·simp [c1, cmpB_neg]
 by_cases c2 : x.2.1 = y.2.1
 rotate_left
 ·simp [c1, c2, cmpB_neg]
 by_cases c3 : x.2.2.2.1 = y.2.2.2.1
 rotate_left
 ·simp [c1, c2, c3, cmpI_neg]
 by_cases c4 : x.2.2.2.2.1 = y.2.2.2.2.1
 rotate_left
 ·simp [c1, c2, c3, c4, cmpI_neg]
 by_cases c5 : x.2.2.2.2.2 = y.2.2.2.2.2
 rotate_left
 ·simp [c1, c2, c3, c4, c5, cmpI_neg]
 by_cases c6 : x.2.2.1 = y.2.2.1
 rotate_left
 ·simp [c1, c2, c3, c4, c5, c6, cmpI_neg]
 ·simp [c1, c2, c3, c4, c5, c6]
theorem rless_spec (x y : It) (h : AHeap) : Gx.Wp (ref15_Less k D x y h) fun z => z.1 = lessI x y ∧ Keeps h z.2 := by
 rw [less_same]
 simp only [ref15_Less]
 refine Wp.newE fun H1 e1 k1 n1 g1 => Wp.newE fun H2 e2 k2 n2 g2 => ?_
 have kk := k1.trans k2
 have gx : H2.get h.next = some (.cells (itC x) 57 true 0) := k2.got (by omega) g1
 have gy : H2.get H1.next = some (.cells (itC y) 57 true 0) := g2
 have lS : ∀ {H : AHeap} {b o : Nat} {e : TypeId} {c : List Value} {t : ByteArray}, H.get b = some (.cells c e true 0) → c[o]? = some (.string t) → ldS ⟨b, o, none⟩ H = some t := fun hb hc => by simp [ldS, AHeap.rd1, hb, hc, decS]
 have x1 := lS (o := 0) gx rfl
 have y1 := lS (o := 0) gy rfl
 refine .bnd x1 (.bnd y1 ?_)
 by_cases c1 : x.1 = y.1
 rotate_left
 ·exact .ifp (by simp [beq_ba, c1]) (.bnd x1 (.bnd y1 (.of ⟨by simp [rlessI, c1, less_eq], kk⟩)))
 refine .ifn (by simp [beq_ba, c1]) ?_
 have r7 : (AHeap.resv H2 2).get h.next = some (.cells (itC x) 57 true 0) := gx
 have r7y : (AHeap.resv H2 2).get H1.next = some (.cells (itC y) 57 true 0) := gy
 have ldx : ldA 5 ⟨h.next, 1, none⟩ (AHeap.resv H2 2) = some ((itC x).drop 1) := by simp only [ldA, AHeap.rdL, r7]; rfl
 refine .bnd ldx (.bnd (show decC [.s, .i .i64, .i .i64, .i .i64, .i .i64] ((itC x).drop 1) = some x.2 from rfl) ?_)
 obtain ⟨h10, e10⟩ : ∃ h10, h10 = AHeap.set (AHeap.resv H2 2) (H2.next + 0) (.cells [.string ⟨#[]⟩, .int .i64 0, .int .i64 0, .int .i64 0, .int .i64 0] 55 true 0) := ⟨_, rfl⟩
 rw [← e10]
 obtain ⟨h11, e11⟩ : ∃ h11, h11 = AHeap.set h10 (H2.next + 1) (.cells [.string ⟨#[]⟩, .int .i64 0, .int .i64 0, .int .i64 0, .int .i64 0] 55 true 0) := ⟨_, rfl⟩
 rw [← e11]
 have n10 : h10.next = H2.next + 2 := by rw [e10]; rfl
 have n11 : h11.next = H2.next + 2 := by rw [e11]; simp [n10]
 have ga : h11.get (H2.next + 0) = some (.cells [.string ⟨#[]⟩, .int .i64 0, .int .i64 0, .int .i64 0, .int .i64 0] 55 true 0) := by rw [e11, e10]; simp
 have gb : h11.get (H2.next + 1) = some (.cells [.string ⟨#[]⟩, .int .i64 0, .int .i64 0, .int .i64 0, .int .i64 0] 55 true 0) := by rw [e11]; simp
 have y10 : h10.get H1.next = some (.cells (itC y) 57 true 0) := by rw [e10]; simp only [AHeap.get_set]; rw [if_neg (by omega)]; exact r7y
 have y11 : h11.get H1.next = some (.cells (itC y) 57 true 0) := by rw [e11]; simp only [AHeap.get_set]; rw [if_neg (by omega)]; exact y10
 have k11 : Keeps H2 h11 := ⟨by omega, fun b hb _ => by
  rw [e11, e10]; simp only [AHeap.get_set]
  rw [if_neg (by omega), if_neg (by omega)]; rfl⟩
 refine Wp.stL ga rfl rfl rfl (by decide) fun H12 c12 n12 g12 => ?_
 have k12 : Keeps H2 H12 := k11.keepsS c12 fun b hb => by subst hb; omega
 have y12 : H12.get H1.next = some (.cells (itC y) 57 true 0) := c12.got (by omega) (by omega) y11
 have gb12 := c12.got (by omega) (by omega) gb
 have ldy : ∀ {H : AHeap}, H.get H1.next = some (.cells (itC y) 57 true 0) → ldA 5 ⟨H1.next, 1, none⟩ H = some ((itC y).drop 1) := fun hb => by simp only [ldA, AHeap.rdL, hb]; rfl
 refine .bnd (ldy y12) (.gp (fun H hH => ?_) (.bnd (show decC [.s, .i .i64, .i .i64, .i .i64, .i .i64] ((itC y).drop 1) = some y.2 from rfl) (Wp.stL gb12 rfl rfl rfl (by decide) fun H13 c13 n13 g13 => ?_)))
 ·simp only [List.mem_cons, List.not_mem_nil, or_false] at hH
  dsimp only
  rcases hH with e | e | e
  ·rw [e, ldy y11]; rfl
  ·rw [e, ldy y10]; rfl
  ·rw [e, ldy r7y]; rfl
 have k13 : Keeps h H13 := kk.trans (k12.keepsS c13 fun b hb => by subst hb; omega)
 have ga13 : H13.get (H2.next + 0) = some (.cells ((itC x).drop 1) 55 true 0) := c13.got (by omega) (by omega) g12
 have gb13 : H13.get (H2.next + 1) = some (.cells ((itC y).drop 1) 55 true 0) := g13
 have p0 := lS (o := 0) ga13 rfl; have q0 := lS (o := 0) gb13 rfl
 have p1 := sldI_at (sp := none) (o := 1) ga13 rfl; have q1 := sldI_at (sp := none) (o := 1) gb13 rfl
 have p2 := sldI_at (sp := none) (o := 2) ga13 rfl; have q2 := sldI_at (sp := none) (o := 2) gb13 rfl
 have p3 := sldI_at (sp := none) (o := 3) ga13 rfl; have q3 := sldI_at (sp := none) (o := 3) gb13 rfl
 have p4 := sldI_at (sp := none) (o := 4) ga13 rfl; have q4 := sldI_at (sp := none) (o := 4) gb13 rfl
 refine .bnd p0 (.bnd q0 ?_)
 by_cases c2 : x.2.1 = y.2.1
 rotate_left
 ·exact .ifp (by simp [beq_ba, c2]) (.bnd p0 (.bnd q0 (.of ⟨by simp [rlessI, c1, c2, less_eq], k13⟩)))
 refine .ifn (by simp [beq_ba, c2]) (.bnd p2 (.bnd q2 ?_))
 by_cases c3 : x.2.2.2.1 = y.2.2.2.1
 rotate_left
 ·exact .ifp (by simp [c3]) (.bnd p2 (.bnd q2 (.of ⟨by simp [rlessI, c1, c2, c3], k13⟩)))
 refine .ifn (by simp [c3]) (.bnd p3 (.bnd q3 ?_))
 by_cases c4 : x.2.2.2.2.1 = y.2.2.2.2.1
 rotate_left
 ·exact .ifp (by simp [c4]) (.bnd p3 (.bnd q3 (.of ⟨by simp [rlessI, c1, c2, c3, c4], k13⟩)))
 refine .ifn (by simp [c4]) (.bnd p4 (.bnd q4 ?_))
 by_cases c5 : x.2.2.2.2.2 = y.2.2.2.2.2
 rotate_left
 ·exact .ifp (by simp [c5]) (.bnd p4 (.bnd q4 (.of ⟨by simp [rlessI, c1, c2, c3, c4, c5], k13⟩)))
 exact .ifn (by simp [c5]) (.bnd p1 (.bnd q1 (.of ⟨by simp [rlessI, c1, c2, c3, c4, c5], k13⟩)))
end
end Gc
namespace Gc
open Go Gx
noncomputable def DD (k : Nat) : CallF := mkC noC [e_lookup_order k noC, e_lookup_Table_Places_1 k noC, e_lookup_Table_Drop_1 k noC, e_cmp_Less_string k noC, e_lookup_Less k noC, e_index_Decode_1 k noC, e_index_item k noC]
theorem DD_sound (k : Nat) : CSound Go.Proofs.Try.prog 0 (DD k) :=
 mkC_sound noC_sound (EntsOk.more (ok_lookup_order noC_sound k) (EntsOk.more (ok_lookup_Table_Places_1 noC_sound k) (EntsOk.more (ok_lookup_Table_Drop_1 noC_sound k) (EntsOk.more (ok_cmp_Less_string noC_sound k) (EntsOk.more (ok_lookup_Less noC_sound k) (EntsOk.more (ok_index_Decode_1 noC_sound k) (EntsOk.more (ok_index_item noC_sound k) EntsOk.none)))))))
section
variable {k : Nat} {h : AHeap} {s : Slc} {xs : List It}
end
end Gc
namespace Gc
open Go Gx
structure SlotB (base : Nat) (h : AHeap) (tb b : Nat) (sp : Option Nat) (cap : Nat) (R : List Value) (s : Slc) (xs : List It) : Prop where
 s : s = ⟨some ⟨b, 0, sp⟩, xs.length, cap⟩
 blk : h.get b = some (.cells (xs.flatMap itC ++ R) 57 true 0)
 one : allOne R = true
 ge : base ≤ b
 lt : b < h.next
 ne : b ≠ tb
 le : xs.length ≤ cap
 room : cap * 6 ≤ xs.length * 6 + R.length
 sp : (sp = some 7 ∧ cap ≠ 0) ∨ (sp = some 0 ∧ cap = 0)
def SlotR (base : Nat) (h : AHeap) (tb : Nat) (s : Slc) (xs : List It) : Prop := (s = ⟨none, 0, 0⟩ ∧ xs = []) ∨ ∃ b sp cap R, SlotB base h tb b sp cap R s xs
section
variable {base tb : Nat} {h h' : AHeap} {s : Slc} {xs : List It}
theorem SlotR.chg {S : Nat → Prop} (A : SlotR base h tb s xs) (c : Chg S h h') (hs : ∀ a, s.a = some a → ¬ S a.block) : SlotR base h' tb s xs := by
 rcases A with A | ⟨b, sp, cap, R, A⟩
 ·exact .inl A
 ·exact .inr ⟨b, sp, cap, R, A.s, (c.oth b A.lt (hs ⟨b, 0, sp⟩ (by rw [A.s]))).trans A.blk, A.one, A.ge, Nat.lt_of_lt_of_le A.lt c.nx, A.ne, A.le, A.room, A.sp⟩
theorem SlotR.keeps (A : SlotR base h tb s xs) (c : Keeps h h') : SlotR base h' tb s xs := A.chg c fun _ _ f => f
theorem SlotR.len (A : SlotR base h tb s xs) : s.len = xs.length := by
 rcases A with ⟨rfl, rfl⟩ | ⟨b, sp, cap, R, A⟩
 ·rfl
 ·rw [A.s]
theorem flat_get {ys : List It} {R : List Value} {i : Nat} {x : It} (hx : ys[i]? = some x) (j : Nat) (v : Value) (hv : (itC x)[j]? = some v) : (ys.flatMap itC ++ R)[i * 6 + j]? = some v := by
 have := flatW_get itC_len hx j v hv
 rw [List.getElem?_append_left (List.getElem?_eq_some_iff.1 this).1]; exact this
theorem SlotR.row (A : SlotR base h tb s xs) : RowW 6 itC h s xs := by
 rcases A with ⟨rfl, rfl⟩ | ⟨b, sp, cap, R, A⟩
 ·exact RowW.nil _ _ _ _ _
 ·rw [A.s]
  exact ⟨rfl, fun i x hx => ⟨_, _, _, _, _, rfl, A.lt, A.blk, fun j v hv => by rw [Nat.zero_add]; exact flat_get hx j v hv⟩⟩
theorem SlotR.own (A : SlotR base h tb s xs) : ∀ a, s.a = some a → base ≤ a.block ∧ a.block < h.next ∧ a.block ≠ tb := by
 rcases A with ⟨rfl, rfl⟩ | ⟨b, sp, cap, R, A⟩
 ·intro a ha; cases ha
 ·intro a ha; rw [A.s] at ha; cases ha; exact ⟨A.ge, A.lt, A.ne⟩
theorem flat_len (ys : List It) : (ys.flatMap itC).length = ys.length * 6 := flatW_length itC_len ys
end
end Gc
namespace Gc
open Go Gx
def Lx {α β : Type} (lt : α → α → Prop) (R : β → β → Prop) (x y : α × β) : Prop := lt x.1 y.1 ∨ x.1 = y.1 ∧ R x.2 y.2
theorem Lx.trans {α β : Type} {lt : α → α → Prop} {R : β → β → Prop} (h1 : ∀ a b c, lt a b → lt b c → lt a c) (h2 : ∀ a b c, R a b → R b c → R a c) : ∀ x y z : α × β, Lx lt R x y → Lx lt R y z → Lx lt R x z := by
 rintro ⟨a, b⟩ ⟨c, d⟩ ⟨e, f⟩ (p | ⟨p, p'⟩) (q | ⟨q, q'⟩)
 ·exact .inl (h1 _ _ _ p q)
 ·simp only at q p; subst q; exact .inl p
 ·simp only at q p; subst p; exact .inl q
 ·simp only at q p; subst p; subst q; exact .inr ⟨rfl, h2 _ _ _ p' q'⟩
def ltB (a b : ByteArray) : Prop := bl a < bl b
theorem ltB_trans (a b c : ByteArray) (h1 : ltB a b) (h2 : ltB b c) : ltB a c := List.lt_trans h1 h2
def ltZ (a b : Int) : Prop := a < b
theorem ltZ_trans (a b c : Int) (h1 : ltZ a b) (h2 : ltZ b c) : ltZ a c := Int.lt_trans h1 h2
def keyI (x : It) : ByteArray × ByteArray × Int × Int × Int × Int := (x.1, x.2.1, x.2.2.2.1, x.2.2.2.2.1, x.2.2.2.2.2, x.2.2.1)
def ltI : ByteArray × ByteArray × Int × Int × Int × Int → ByteArray × ByteArray × Int × Int × Int × Int → Prop := Lx ltB (Lx ltB (Lx ltZ (Lx ltZ (Lx ltZ ltZ))))
theorem lessI_iff (x y : It) : lessI x y = true ↔ ltI (keyI x) (keyI y) := by
 rw [less_same]
 unfold rlessI ltI Lx keyI ltB ltZ
 simp only
 by_cases c1 : x.1 = y.1
 rotate_left
 ·simp [c1]
 by_cases c2 : x.2.1 = y.2.1
 rotate_left
 ·simp [c1, c2, List.lt_irrefl]
 by_cases c3 : x.2.2.2.1 = y.2.2.2.1
 rotate_left
 ·simp [c1, c2, c3, List.lt_irrefl]
 by_cases c4 : x.2.2.2.2.1 = y.2.2.2.2.1
 rotate_left
 ·simp [c1, c2, c3, c4, List.lt_irrefl]
 by_cases c5 : x.2.2.2.2.2 = y.2.2.2.2.2
 rotate_left
 ·simp [c1, c2, c3, c4, c5, List.lt_irrefl]
 simp [c1, c2, c3, c4, c5, List.lt_irrefl]
theorem lessI_trans {x y z : It} (h1 : lessI x y = true) (h2 : lessI y z = true) : lessI x z = true := by
 rw [lessI_iff] at *
 exact Lx.trans ltB_trans (Lx.trans ltB_trans (Lx.trans ltZ_trans (Lx.trans ltZ_trans (Lx.trans ltZ_trans ltZ_trans)))) _ _ _ h1 h2
end Gc
namespace Gc
open Go Gx
def idx (id : ByteArray) : Nat := match bl id with
 | [] => 0
 | b :: _ => b.toNat
def tabC (sl : Nat → Slc) : List Value := (List.range 256).map fun i => .slice (sl i).a (sl i).len (sl i).cap
def TOwn (tb : Nat) (sl : Nat → Slc) (y : Nat) : Prop := y = tb ∨ ∃ i, i < 256 ∧ ∃ a, (sl i).a = some a ∧ a.block = y
structure Tab (base : Nat) (h : AHeap) (tb : Nat) (sl : Nat → Slc) (F : Nat → List It) : Prop where
 blk : h.get tb = some (.cells (tabC sl) 123 true 0)
 lt : tb < h.next
 ge : base ≤ tb
 slot : ∀ i, i < 256 → SlotR base h tb (sl i) (F i)
 apart : ∀ i j a b, i < 256 → j < 256 → i ≠ j → (sl i).a = some a → (sl j).a = some b → a.block ≠ b.block
section
variable {base tb : Nat} {h h' : AHeap} {sl : Nat → Slc} {F : Nat → List It}
theorem Tab.own (T : Tab base h tb sl F) {y : Nat} (hy : TOwn tb sl y) : base ≤ y ∧ y < h.next := by
 rcases hy with rfl | ⟨i, hi, a, ha, rfl⟩
 ·exact ⟨T.ge, T.lt⟩
 ·have := (T.slot i hi).own a ha; exact ⟨this.1, this.2.1⟩
theorem Tab.chg {S : Nat → Prop} (T : Tab base h tb sl F) (c : Chg S h h') (hs : ∀ y, TOwn tb sl y → ¬ S y) : Tab base h' tb sl F :=
 ⟨(c.oth tb T.lt (hs tb (.inl rfl))).trans T.blk, Nat.lt_of_lt_of_le T.lt c.nx, T.ge, fun i hi => (T.slot i hi).chg c fun a ha => hs _ (.inr ⟨i, hi, a, ha, rfl⟩), T.apart⟩
theorem Tab.keeps (T : Tab base h tb sl F) (c : Keeps h h') : Tab base h' tb sl F := T.chg c fun _ _ f => f
end
section
variable {k base tb : Nat} {h : AHeap} {sl : Nat → Slc} {F : Nat → List It} {s : Slc} {xs : List It}
end
end Gc
namespace Gc
open Go Gx
abbrev Pl := ByteArray × Int × Int × Int × Int
def plC (x : Pl) : List Value := [.string x.1, .int .i64 x.2.1, .int .i64 x.2.2.1, .int .i64 x.2.2.2.1, .int .i64 x.2.2.2.2]
section
variable {k base tb : Nat} {h : AHeap} {sl : Nat → Slc} {F : Nat → List It} {s : Slc} {xs : List It}
end
end Gc
namespace Gc
open Go Gx
def inP (p : ByteArray) (y : It) : Bool := decide (y.2.1 = p)
def outP (p : ByteArray) (y : It) : Bool := !inP p y
section
variable {k base tb : Nat} {h : AHeap} {s : Slc} {xs : List It} {pb : Nat} {p : ByteArray}
end
end Gc
namespace Gc
open Go Gx
section
variable {k base tb : Nat} {h : AHeap} {sl : Nat → Slc} {F : Nat → List It}
end
def amg (x n : Int) : Int := Int.tmod (Int.tmod x n + n) n
def rep32 (b : Nat) : ByteArray := repB ⟨⟨[UInt8.ofNat b]⟩⟩ 32
def itemV (id pack off : Int) : It := (rep32 (amg id 20 * 13).toNat, rep32 (97 + amg pack 5).toNat, 1, amg off 100, 5, 3)
end Gc
namespace Gc
open Go Gx
def Tru {R : Type} (x : Option (R × AHeap)) (v : R) : Prop := ∃ h', x = some (v, h')
theorem Tru.wp {R : Type} {v : R} {x : Option (R × AHeap)} (h : Gx.Wp x fun q => q.1 = v) : Tru x v := by
 obtain ⟨⟨a, b⟩, e, q⟩ := h
 simp only at q
 subst q
 exact ⟨b, e⟩
def itB : It := itemV 1 1 9
theorem outB : outP itB.2.1 itB = false := by decide
section
variable {k : Nat}
theorem eqI (x y : It) : ((x.1 == y.1) && ((x.2.1 == y.2.1) && ((x.2.2.1 == y.2.2.1) && ((x.2.2.2.1 == y.2.2.2.1) && ((x.2.2.2.2.1 == y.2.2.2.2.1) && (x.2.2.2.2.2 == y.2.2.2.2.2)))))) = decide (x = y) := by
 obtain ⟨a, b, c, d, e, f⟩ := x
 obtain ⟨a', b', c', d', e', f'⟩ := y
 simp only [beq_ba, Prod.mk.injEq]
 rw [Bool.eq_iff_iff]
 simp
end
end Gc
namespace Gc
open Go Gx
variable {H : Type} {enc : TypeId × Value → H}
end Gc
namespace Gc
open Go Gx
def leb (n : Nat) : List UInt8 := if n < 128 then [UInt8.ofNat n] else UInt8.ofNat (n % 128 + 128) :: leb (n / 128)
termination_by n
decreasing_by omega
theorem leb_lt {n : Nat} (h : n < 128) : leb n = [UInt8.ofNat n] := by rw [leb]; rw [if_pos h]
theorem leb_ge {n : Nat} (h : ¬ n < 128) : leb n = UInt8.ofNat (n % 128 + 128) :: leb (n / 128) := by rw [leb]; rw [if_neg h]
theorem leb_len : ∀ (d n : Nat), n < 128 ^ (d + 1) → (leb n).length ≤ d + 1
 | 0, n, h => by rw [leb_lt (by omega)]; simp
 | d + 1, n, h => by
  by_cases c : n < 128
  ·rw [leb_lt c]; simp
  ·rw [leb_ge c, List.length_cons]
   have : n / 128 < 128 ^ (d + 1) := (Nat.div_lt_iff_lt_mul (by decide)).2 (by rw [Nat.pow_succ] at h; exact h)
   have := leb_len d (n / 128) this
   omega
def bA (l : List UInt8) : ByteArray := ⟨⟨l⟩⟩
theorem bA_size (l : List UInt8) : (bA l).size = l.length := rfl
theorem bA_app (l m : List UInt8) : bA l ++ bA m = bA (l ++ m) := by
 apply bl_inj
 simp [bl, bA, ByteArray.data_append]
theorem or128 : ∀ a : Fin 256, Go.bits .or .u8 (a.val : Int) 128 = ((a.val % 128 + 128 : Nat) : Int) := by decide +kernel
section
variable {k : Nat}
theorem encB_of (m : Nat) (h : m < 256) : Value.int .u8 (m : Int) = encB (UInt8.ofNat m) := by
 unfold encB
 congr 1
 have : (UInt8.ofNat m).toNat = m := by simp [UInt8.toNat_ofNat']; omega
 omega
theorem bytes_row {h : AHeap} {s : Slc} {l : List UInt8} (R : Row encB h s l) : bytesOf h s = some (bA l) := by
 have := R.rdS
 unfold Gx.rdS at this
 unfold bytesOf
 cases e : s.a with
 | none =>
  rw [e] at this
  have e2 : l.map encB = [] := by
   cases hl : l.map encB with
   | nil => rfl
   | cons x y => rw [hl] at this; cases this
  have : l = [] := by simpa using e2
  rw [this]; rfl
 | some a =>
  rw [e] at this
  simp only [Nat.mul_one] at this
  show (h.rdL a.block a.off s.len).bind _ = _
  rw [this]
  show (unbytes (l.map encB)).bind _ = _
  rw [unbytes_map]; rfl
theorem short_spec (D : CallF) (hk : 20 ≤ k) (n : Nat) (hn : n < 9223372036854775808) (h : AHeap) : Gx.Wp (num_Short k D (n : Int) h) fun z => z.1 = (bA (leb n), 0) ∧ Keeps h z.2 := by
 simp only [num_Short]
 refine .ifn (by simp) (Gx.Wp.jn fun j4 h4 => ?_)
 unfold num_Short_l0
 obtain ⟨bot, eb⟩ := iterK_of (fun _ _ _ => none) (num_Short_l0b k D j4) (show 9 + 1 ≤ k by omega)
 rw [eb]
 have loop : ∀ (d m : Nat) (l : List UInt8) (o : Slc) (H : AHeap), m < 128 ^ (d + 1) → m < 9223372036854775808 → l.length + d ≤ 20 → l ++ leb m = leb n → Keeps h H → Acc encB 5 h.next H o l → Gx.Wp (iterK bot (d + 1) (num_Short_l0b k D j4) (m : Int) o H) fun z => z.1 = (bA (leb n), 0) ∧ Keeps h z.2 := fun d => by
  induction d with
  | zero =>
   intro m l o H hm hm2 hl hlm kp A
   rw [iterK_s]; simp only [num_Short_l0b]
   have hm' : m < 128 := by simpa using hm
   refine .ifn (by simp; omega) ?_
   rw [h4]
   refine Wp.newE fun H1 e1 k1 n1 g1 => ?_
   rw [Gx.w8 _ (by omega), encB_of m (by omega)] at e1
   obtain ⟨s', h9, a1, a2, A', c9, d9⟩ := Acc.pushK A (fun _ => rfl) (UInt8.ofNat m) (bytes := 1) e1 (by omega) (by decide) kp.nx
   refine .bnd a1 (.bnd a2 (.bnd (bytes_row A'.row) (.of ⟨?_, kp.keepsS c9 fun y ⟨a, ha, e⟩ => by rw [e]; exact (A.lt a ha).2⟩)))
   rw [← hlm, leb_lt hm']
  | succ d ih =>
   intro m l o H hm hm2 hl hlm kp A
   rw [iterK_s]; simp only [num_Short_l0b]
   by_cases c : m < 128
   ·refine .ifn (by simp; omega) ?_
    rw [h4]
    refine Wp.newE fun H1 e1 k1 n1 g1 => ?_
    rw [Gx.w8 _ (by omega), encB_of m (by omega)] at e1
    obtain ⟨s', h9, a1, a2, A', c9, d9⟩ := Acc.pushK A (fun _ => rfl) (UInt8.ofNat m) (bytes := 1) e1 (by omega) (by decide) kp.nx
    refine .bnd a1 (.bnd a2 (.bnd (bytes_row A'.row) (.of ⟨?_, kp.keepsS c9 fun y ⟨a, ha, e⟩ => by rw [e]; exact (A.lt a ha).2⟩)))
    rw [← hlm, leb_lt c]
   ·refine .ifp (by simp; omega) (Wp.newE fun H1 e1 k1 n1 g1 => ?_)
    have ew : IntKind.wrap .u8 (m : Int) = ((m % 256 : Nat) : Int) := by rw [Go.IntKind.wrap_u8]; omega
    have eo : Go.bits .or .u8 (IntKind.wrap .u8 (m : Int)) 128 = ((m % 128 + 128 : Nat) : Int) := by
     rw [ew, or128 ⟨m % 256, by omega⟩]
     congr 2
     show m % 256 % 128 = m % 128
     omega
    rw [eo, encB_of _ (by omega)] at e1
    obtain ⟨s', h9, a1, a2, A', c9, d9⟩ := Acc.pushK A (fun _ => rfl) (UInt8.ofNat (m % 128 + 128)) (bytes := 1) e1 (by omega) (by decide) kp.nx
    refine .bnd a1 (.bnd a2 ?_)
    have ef : Int.fdiv (m : Int) 128 = ((m / 128 : Nat) : Int) := by rw [Int.fdiv_eq_ediv_of_nonneg _ (by decide)]; omega
    rw [ef]
    refine ih (m / 128) (l ++ [UInt8.ofNat (m % 128 + 128)]) s' h9 ((Nat.div_lt_iff_lt_mul (by decide)).2 (by rw [Nat.pow_succ] at hm; exact hm)) (by omega) (by rw [List.length_append, List.length_singleton]; omega) ?_ (kp.keepsS c9 fun y ⟨a, ha, e⟩ => by rw [e]; exact (A.lt a ha).2) A'
    rw [← hlm, leb_ge c]; simp
 exact loop 9 n [] ⟨none, 0, 0⟩ h (Nat.lt_of_lt_of_le hn (by decide)) hn (by simp) (by simp) (.refl _ _) (Acc.nil _ _ _ _)
theorem small_spec (D : CallF) (hk : 20 ≤ k) (n : Nat) (hn : n < 9223372036854775808) (h : AHeap) : Gx.Wp (ref01_Small k D (n : Int) h) fun z => z.1 = bA (leb n) ∧ Keeps h z.2 := by
 simp only [ref01_Small]
 refine Gx.Wp.jn fun j4 h4 => ?_
 unfold ref01_Small_l0
 obtain ⟨bot, eb⟩ := iterK_of (fun _ _ _ => none) (ref01_Small_l0b k D j4) (show 9 + 1 ≤ k by omega)
 rw [eb]
 have fin : ∀ (m : Nat) (l : List UInt8) (o : Slc) (H : AHeap), m < 128 → l.length ≤ 20 → l ++ leb m = leb n → Keeps h H → Acc encB 5 h.next H o l → Gx.Wp (j4 (m : Int) o H) fun z => z.1 = bA (leb n) ∧ Keeps h z.2 := fun m l o H hm hl hlm kp A => by
  rw [h4]
  refine Wp.newE fun H1 e1 k1 n1 g1 => ?_
  rw [Gx.w8 _ (by omega), encB_of m (by omega)] at e1
  obtain ⟨s', h9, a1, a2, A', c9, d9⟩ := Acc.pushK A (fun _ => rfl) (UInt8.ofNat m) (bytes := 1) e1 (by omega) (by decide) kp.nx
  refine .bnd a1 (.bnd a2 (.bnd (bytes_row A'.row) (.of ⟨?_, kp.keepsS c9 fun y ⟨a, ha, e⟩ => by rw [e]; exact (A.lt a ha).2⟩)))
  rw [← hlm, leb_lt hm]
 have loop : ∀ (d m : Nat) (l : List UInt8) (o : Slc) (H : AHeap), m < 128 ^ (d + 1) → m < 9223372036854775808 → l.length + d ≤ 20 → l ++ leb m = leb n → Keeps h H → Acc encB 5 h.next H o l → Gx.Wp (iterK bot (d + 1) (ref01_Small_l0b k D j4) (m : Int) o H) fun z => z.1 = bA (leb n) ∧ Keeps h z.2 := fun d => by
  induction d with
  | zero =>
   intro m l o H hm hm2 hl hlm kp A
   rw [iterK_s]; simp only [ref01_Small_l0b]
   have hm' : m < 128 := by simpa using hm
   exact .ifn (by simp; omega) (fin m l o H hm' (by omega) hlm kp A)
  | succ d ih =>
   intro m l o H hm hm2 hl hlm kp A
   rw [iterK_s]; simp only [ref01_Small_l0b]
   by_cases c : m < 128
   ·exact .ifn (by simp; omega) (fin m l o H c (by omega) hlm kp A)
   ·refine .ifp (by simp; omega) (Wp.newE fun H1 e1 k1 n1 g1 => ?_)
    have et : IntKind.wrap .u8 (IntKind.wrap .i64 (128 + Int.tmod (m : Int) 128)) = ((m % 128 + 128 : Nat) : Int) := by
     have : Int.tmod (m : Int) 128 = ((m % 128 : Nat) : Int) := by rw [Int.tmod_eq_emod_of_nonneg (by omega)]; omega
     rw [this, Gx.w64 _ (by omega), Gx.w8 _ (by omega)]; omega
    rw [et, encB_of _ (by omega)] at e1
    obtain ⟨s', h9, a1, a2, A', c9, d9⟩ := Acc.pushK A (fun _ => rfl) (UInt8.ofNat (m % 128 + 128)) (bytes := 1) e1 (by omega) (by decide) kp.nx
    refine .bnd a1 (.bnd a2 ?_)
    have ef : IntKind.wrap .i64 (Int.tdiv (m : Int) 128) = ((m / 128 : Nat) : Int) := by
     rw [Int.tdiv_eq_ediv_of_nonneg (by omega), Gx.w64 _ (by omega)]; omega
    rw [ef]
    refine ih (m / 128) (l ++ [UInt8.ofNat (m % 128 + 128)]) s' h9 ((Nat.div_lt_iff_lt_mul (by decide)).2 (by rw [Nat.pow_succ] at hm; exact hm)) (by omega) (by rw [List.length_append, List.length_singleton]; omega) ?_ (kp.keepsS c9 fun y ⟨a, ha, e⟩ => by rw [e]; exact (A.lt a ha).2) A'
    rw [← hlm, leb_ge c]; simp
 exact loop 9 n [] ⟨none, 0, 0⟩ h (Nat.lt_of_lt_of_le hn (by decide)) hn (by simp) (by simp) (.refl _ _) (Acc.nil _ _ _ _)
theorem ishort_spec (D : CallF) (hk : 20 ≤ k) (n : Nat) (hn : n < 9223372036854775808) (h : AHeap) : Gx.Wp (index_short k D (n : Int) h) fun z => z.1 = bA (leb n) ∧ Keeps h z.2 := by
 simp only [index_short]
 exact .call (short_spec D hk n hn h) fun r ⟨q, kk⟩ => .of ⟨by rw [q], kk⟩
end
end Gc
namespace Gc
open Go Gx
structure BuS (base : Nat) (H : AHeap) (bb : Nat) (s : Slc) (l : List UInt8) : Prop where
 blk : ∃ pv, H.get bb = some (.cells [pv, .slice s.a s.len s.cap] 111 true 0) ∧ (pv = .pointer none ∨ pv = .pointer (some ⟨bb, 0, none⟩))
 acc : Acc encB 5 base H s l
 lt : bb < H.next
 ge : base ≤ bb
 ne : ∀ a, s.a = some a → a.block ≠ bb
def BOwn (bb : Nat) (s : Slc) (y : Nat) : Prop := y = bb ∨ ofS s y
section
variable {k base bb : Nat} {h H H' : AHeap} {s : Slc} {l : List UInt8}
theorem BuS.own (B : BuS base H bb s l) {y : Nat} (hy : BOwn bb s y) : base ≤ y ∧ y < H.next := by
 rcases hy with rfl | ⟨a, ha, rfl⟩
 ·exact ⟨B.ge, B.lt⟩
 ·exact ⟨(B.acc.lt a ha).2, (B.acc.lt a ha).1⟩
theorem BuS.chg {S : Nat → Prop} (B : BuS base H bb s l) (c : Chg S H H') (hs : ∀ y, BOwn bb s y → ¬ S y) : BuS base H' bb s l :=
 ⟨by
  obtain ⟨pv, g, e⟩ := B.blk
  exact ⟨pv, (c.oth bb B.lt (hs bb (.inl rfl))).trans g, e⟩, B.acc.chg c fun a ha => hs _ (.inr ⟨a, ha, rfl⟩), Nat.lt_of_lt_of_le B.lt c.nx, B.ge, B.ne⟩
theorem BuS.keeps (B : BuS base H bb s l) (c : Keeps H H') : BuS base H' bb s l := B.chg c fun _ _ f => f
theorem BuS.new (H : AHeap) (g : H'.get H.next = some (.cells [.pointer none, .slice none 0 0] 111 true 0)) (n : H'.next = H.next + 1) : BuS H.next H' H.next ⟨none, 0, 0⟩ [] :=
 ⟨⟨_, g, .inl rfl⟩, Acc.nil _ _ _ _, by omega, Nat.le_refl _, fun a ha => by cases ha⟩
theorem write_spec (D : CallF) (B : BuS base H bb s l) (x : ByteArray) (hx : 2 * (l.length + x.size) ≤ 281474976710656) :
  Gx.Wp (strings_Builder_WriteString k D (some ⟨bb, 0, none⟩) x H) fun z => ∃ s', BuS base z.2 bb s' (l ++ bl x) ∧ Chg (BOwn bb s) H z.2 ∧ ∀ y, BOwn bb s' y → H.next ≤ y ∨ BOwn bb s y := by
 simp only [strings_Builder_WriteString]
 obtain ⟨pv, g, hpv⟩ := B.blk
 have hlt := B.lt
 have hge := B.ge
 obtain ⟨H1, e1, g1, c1⟩ : ∃ H1, ccA ccTab ⟨bb, 0, none⟩ H = some H1 ∧ H1.get bb = some (.cells [.pointer (some ⟨bb, 0, none⟩), .slice s.a s.len s.cap] 111 true 0) ∧ Chg (· = bb) H H1 := by
  have ht : tabIn 111 0 2 ccTab = true := by decide
  rcases hpv with rfl | rfl
  ·refine ⟨_, ?_, sset_get _ _ _, Chg.set (.inr rfl)⟩
   ·unfold ccA
    simp only [g]
    rw [if_pos ⟨by simpa using ht, trivial⟩]
    show st1 ⟨bb, 0, none⟩ _ H = _
    rw [st1_of g (by simp) rfl]; rfl
  ·refine ⟨H, ?_, g, .refl _ _⟩
   ·unfold ccA
    simp only [g]
    rw [if_pos ⟨by simpa using ht, trivial⟩]
    simp
 have nx1 := c1.nx
 have A1 : Acc encB 5 base H1 s l := B.acc.chg c1 fun a ha e => B.ne a ha e
 obtain ⟨s', h5, a5, A5, c5, d5⟩ : ∃ s' h5, appendA 1 1 5 H1 s (bytesL x) x.size = some (s', h5) ∧ Acc encB 5 base h5 s' (l ++ bl x) ∧ Chg (ofS s) H1 h5 ∧ ∀ a, s'.a = some a → H1.next ≤ a.block ∨ ofS s a.block := by
  by_cases c : bl x = []
  ·have hx0 : x = ⟨#[]⟩ := bl_inj (by rw [c]; rfl)
   subst hx0
   refine ⟨s, H1, ?_, by rw [c, List.append_nil]; exact A1, .refl _ _, fun a ha => .inr ⟨a, ha, rfl⟩⟩
   rcases A1.st with ⟨rfl, _⟩ | ⟨b, gg⟩
   ·rfl
   ·rw [gg.s]
    show appendA 1 1 5 H1 _ [] 0 = _
    simp [appendA]
  ·obtain ⟨s', h5, p1, p2, p3, p4⟩ := A1.app (fun _ => rfl) (bl x) (bytes := 1) (by have : (bl x).length = x.size := rfl; omega) (by decide) (by omega)
   exact ⟨s', h5, p1, p2, p3, fun a ha => (p4 a ha).imp id fun q => ⟨a, q, rfl⟩⟩
 have n5 := c5.nx
 have g5 : h5.get bb = some (.cells [.pointer (some ⟨bb, 0, none⟩), .slice s.a s.len s.cap] 111 true 0) := c5.got (by omega) (fun ⟨a, ha, e⟩ => B.ne a ha e.symm) g1
 refine .bnd rfl (.bnd e1 (.bnd rfl (.bnd (sldL_at (o := 0 + 1) g1 rfl) (.bnd a5 (.bnd rfl (.bnd (st1_of g5 (by simp) rfl) (.of ?_)))))))
 have d5' : ∀ a, s'.a = some a → a.block ≠ bb := fun a ha e => by
  rcases d5 a ha with q | ⟨b, hb, q⟩
  ·omega
  ·exact B.ne b hb (q ▸ e)
 refine ⟨s', ⟨⟨_, sset_get _ _ _, .inr rfl⟩, A5.chg (S := (· = bb)) (Chg.set (.inr rfl)) fun a ha e => d5' a ha e, by simp; omega, hge, d5'⟩, ?_, ?_⟩
 ·refine Chg.beh (T := (· = bb)) (Chg.beh (T := ofS s) (c1.wk fun y _ e => .inl e) c5 fun y _ e => .inr e) (Chg.set (.inr rfl)) fun y _ e => .inl e
 ·rintro y (rfl | ⟨a, ha, rfl⟩)
  ·exact .inr (.inl rfl)
  ·rcases d5 a ha with q | q
   ·left; omega
   ·exact .inr (.inr q)
theorem unbytesS_map (l : List UInt8) : unbytesS (l.map encB) = some l := by
 induction l with
 | nil => rfl
 | cons x l ih =>
  have hx := x.toNat_lt
  simp only [List.map_cons, encB, unbytesS]
  rw [if_pos (by omega), ih]
  simp
theorem bstring_spec (D : CallF) (B : BuS base H bb s l) (hl : l.length < 9223372036854775808) : Gx.Wp (strings_Builder_String k D (some ⟨bb, 0, none⟩) H) fun z => z.1 = bA l ∧ Chg (BOwn bb s) H z.2 ∧ ∃ pv, z.2.get bb = some (.cells [pv, .slice s.a s.len s.cap] 111 true 0) := by
 obtain ⟨pv, g, hpv⟩ := B.blk
 simp only [strings_Builder_String]
 have hsl : s.len = l.length := B.acc.row.1
 have gl := sldL_at (sp := none) (o := 0 + 1) g rfl
 rcases B.acc.st with ⟨rfl, rfl⟩ | ⟨b, gg⟩
 ·refine .bnd rfl (.bnd gl (.bnd rfl (.bnd rfl (.bnd gl (.bnd (show unsA 5 none ((0 : Nat) : Int) H = some (⟨#[]⟩, H) from rfl) (.of ⟨rfl, .refl _ _, pv, g⟩))))))
 ·have gb : H.get b = some (.cells (l.map encB) 5 true 0) := gg.blk
  have hp : 0 < l.length := List.length_pos_iff.2 gg.ne
  have hne : b ≠ bb := B.ne ⟨b, 0, some 2⟩ (by rw [gg.s])
  have e1 : sliceP s = some (some ⟨b, 0, none⟩) := by
   rw [gg.s]
   unfold sliceP
   have : Nat.beq l.length 0 = false := by
    cases c : Nat.beq l.length 0 with
    | false => rfl
    | true => have := Nat.eq_of_beq_eq_true c; omega
   simp only [this, cond_false]
  have e2 : unsA 5 (some ⟨b, 0, none⟩) (s.len : Int) H = some (bA l, H.set b (.cells (l.map encB) 5 true (max 0 l.length))) := by
   unfold unsA
   rw [hsl, if_neg (by omega)]
   simp only [gb]
   rw [if_pos ⟨trivial, by omega, by omega, trivial, by simp, by omega⟩, Int.toNat_natCast, List.take_of_length_le (by simp), unbytesS_map]
   rfl
  refine .bnd rfl (.bnd gl (.bnd e1 (.bnd rfl (.bnd gl (.bnd e2 (.of ⟨rfl, Chg.set (.inr (.inr ⟨⟨b, 0, some 2⟩, by rw [gg.s], rfl⟩)), pv, ?_⟩))))))
  simp only [AHeap.get_set]
  rw [if_neg (Ne.symm hne)]; exact g
end
end Gc
namespace Gc
open Go Gx
theorem pw_snoc {α : Type} {R : α → α → Prop} (tr : ∀ a b c, R a b → R b c → R a c) {l : List α} {i : Nat} {x y : α} (h : (l.take (i + 1)).Pairwise R) (hy : l[i]? = some y) (hx : l[i + 1]? = some x) (r : R y x) : (l.take (i + 2)).Pairwise R := by
 have e : l.take (i + 2) = l.take (i + 1) ++ [x] := by rw [List.take_add_one (i := i + 1), hx]; rfl
 rw [e, List.pairwise_append]
 refine ⟨h, List.pairwise_singleton _ _, fun a ha b hb => ?_⟩
 rw [List.mem_singleton] at hb
 subst hb
 have e2 : l.take (i + 1) = l.take i ++ [y] := by rw [List.take_add_one, hy]; rfl
 rw [e2] at h ha
 rcases List.mem_append.1 ha with ha | ha
 ·exact tr _ _ _ ((List.pairwise_append.1 h).2.2 a ha y (List.mem_singleton.2 rfl)) r
 ·rw [List.mem_singleton] at ha; subst ha; exact r
theorem pw_not {α : Type} {R : α → α → Prop} {l : List α} {i : Nat} {x y : α} (hy : l[i]? = some y) (hx : l[i + 1]? = some x) (r : ¬ R y x) : ¬ l.Pairwise R := fun h => by
 obtain ⟨h1, rfl⟩ := getElem_of hy
 obtain ⟨h2, rfl⟩ := getElem_of hx
 exact r (List.pairwise_iff_getElem.1 h i (i + 1) h1 h2 (by omega))
instance (a b : ByteArray) : Decidable (ltB a b) := by unfold ltB; exact inferInstance
def LessI (x y : It) : Prop := lessI x y = true
theorem LessI_trans (a b c : It) (h1 : LessI a b) (h2 : LessI b c) : LessI a c := lessI_trans h1 h2
def sizeOk (sup : List ByteArray) (its : List It) : Prop := (∀ s ∈ sup, s.size = 32) ∧ ∀ x ∈ its, okI x
def upOk (sup : List ByteArray) (its : List It) : Prop := sup.Pairwise ltB ∧ its.Pairwise LessI
open Classical in
noncomputable def chkF (sup : List ByteArray) (its : List It) : Int := if sizeOk sup its then (if upOk sup its then 0 else 4) else 1
section
variable {k : Nat} {h : AHeap} {fs fi : Slc} {sup : List ByteArray} {its : List It}
theorem dd_lessS {R : Type} {Q : R → Prop} {x y : ByteArray} {h : AHeap} {κ : Value → AHeap → Option R} {C : CallF} (hC : C = DD k) (kt : Gx.Wp (κ (.bool (decide (ltB x y))) h) Q) :
  Gx.Wp (callD C (.func (.func 97) ⟨[]⟩ ⟨[]⟩) [.string x, .string y] h κ) Q := by
 subst hC
 show Gx.Wp ((cmp_Less_string k noC x y h).bind fun r => κ (.bool r.1) r.2) Q
 have e : cmp_Less_string k noC x y h = some (decide (ltB x y), h) := by
  simp only [cmp_Less_string, cmp_isNaN_string, Option.bind_some, beq_ba, less_eq]
  simp [ltB]
 exact .bnd e kt
theorem dd_lessI {R : Type} {Q : R → Prop} (hk : 100 ≤ k) {x y : It} {h : AHeap} {κ : Value → AHeap → Option R} {C : CallF} (hC : C = DD k) (kt : ∀ h', Keeps h h' → Gx.Wp (κ (.bool (lessI x y)) h') Q) :
  Gx.Wp (callD C (.func (.func 30) ⟨[]⟩ ⟨[]⟩) [.agg ⟨itC x⟩, .agg ⟨itC y⟩] h κ) Q := by
 subst hC
 show Gx.Wp ((lookup_Less k noC x y h).bind fun r => κ (.bool r.1) r.2) Q
 refine .call (less_spec noC hk x y h) fun r ⟨q1, q2⟩ => ?_
 rw [q1]; exact kt _ q2
theorem risesS_spec (R : Row encS h fs sup) (hl : sup.length + 10 ≤ k) (hb : sup.length < 9000000000000000000) : Gx.Wp (index_rises_string k (DD k) fs (.func (.func 97) ⟨[]⟩ ⟨[]⟩) h) fun z => (z.1 = true ↔ sup.Pairwise ltB) ∧ Keeps h z.2 := by
 simp only [index_rises_string]
 refine Gx.Wp.jn fun j2 h2 => ?_
 unfold index_rises_string_l0
 obtain ⟨bot, eb⟩ := iterK_of (fun _ _ _ _ => none) (index_rises_string_l0b k (DD k) j2) (show (sup.length - 1) + 1 ≤ k by omega)
 rw [eb]
 have loop : ∀ (d i : Nat), (i + 1) + d = max sup.length 1 → (sup.take (i + 1)).Pairwise ltB → Gx.Wp (iterK bot (d + 1) (index_rises_string_l0b k (DD k) j2) fs (.func (.func 97) ⟨[]⟩ ⟨[]⟩) ((i + 1 : Nat) : Int) h) fun z => (z.1 = true ↔ sup.Pairwise ltB) ∧ Keeps h z.2 := fun d => by
  induction d with
  | zero =>
   intro i hd hp
   rw [iterK_s]; simp only [index_rises_string_l0b]
   refine .ifn (by rw [show fs.len = sup.length from R.1]; simp; omega) ?_
   rw [h2]
   rw [List.take_of_length_le (by omega)] at hp
   exact .of ⟨⟨fun _ => hp, fun _ => rfl⟩, .refl _ _⟩
  | succ d ih =>
   intro i hd hp
   rw [iterK_s]; simp only [index_rises_string_l0b]
   obtain ⟨y, hy⟩ := isome (l := sup) (i := i) (by omega)
   obtain ⟨x, hx⟩ := isome (l := sup) (i := i + 1) (by omega)
   obtain ⟨q, b1, b2⟩ := Row.ldS R hy
   obtain ⟨q', c1, c2⟩ := Row.ldS R hx
   have e1 : IntKind.wrap .i64 (((i + 1 : Nat) : Int) - 1) = (i : Int) := by rw [Gx.w64 _ (by omega)]; omega
   rw [e1]
   refine .ifp (by rw [show fs.len = sup.length from R.1]; simp; omega) (.bnd b1 (.bnd b2 (.bnd c1 (.bnd c2 (dd_lessS rfl (.bnd rfl ?_))))))
   by_cases c : ltB y x
   ·refine .ifn (by simp [c]) ?_
    rw [Gx.w1 (by omega)]
    exact ih (i + 1) (by omega) (pw_snoc ltB_trans hp hy hx c)
   ·exact .ifp (by simp [c]) (.of ⟨⟨fun e => (Bool.false_ne_true e).elim, fun e => absurd e (pw_not hy hx c)⟩, .refl _ _⟩)
 by_cases c0 : sup = []
 ·subst c0
  exact loop 0 0 rfl List.Pairwise.nil
 ·have : 0 < sup.length := List.length_pos_iff.2 c0
  obtain ⟨y, hy⟩ := isome (l := sup) (i := 0) this
  exact loop (sup.length - 1) 0 (by omega) (by rw [List.take_add_one, hy]; simp)
theorem risesI_spec (hk : 100 ≤ k) (R : RowW 6 itC h fi its) (hl : its.length + 10 ≤ k) (hb : its.length < 9000000000000000000) : Gx.Wp (index_rises_api_Item k (DD k) fi (.func (.func 30) ⟨[]⟩ ⟨[]⟩) h) fun z => (z.1 = true ↔ its.Pairwise LessI) ∧ Keeps h z.2 := by
 simp only [index_rises_api_Item]
 refine Gx.Wp.jn fun j2 h2 => ?_
 unfold index_rises_api_Item_l0
 obtain ⟨bot, eb⟩ := iterK_of (fun _ _ _ _ => none) (index_rises_api_Item_l0b k (DD k) j2) (show (its.length - 1) + 1 ≤ k by omega)
 rw [eb]
 have loop : ∀ (d i : Nat) (H : AHeap), (i + 1) + d = max its.length 1 → Keeps h H → (its.take (i + 1)).Pairwise LessI → Gx.Wp (iterK bot (d + 1) (index_rises_api_Item_l0b k (DD k) j2) fi (.func (.func 30) ⟨[]⟩ ⟨[]⟩) ((i + 1 : Nat) : Int) H) fun z => (z.1 = true ↔ its.Pairwise LessI) ∧ Keeps h z.2 := fun d => by
  induction d with
  | zero =>
   intro i H hd kp hp
   rw [iterK_s]; simp only [index_rises_api_Item_l0b]
   refine .ifn (by rw [R.len]; simp; omega) ?_
   rw [h2]
   rw [List.take_of_length_le (by omega)] at hp
   exact .of ⟨⟨fun _ => hp, fun _ => rfl⟩, kp⟩
  | succ d ih =>
   intro i H hd kp hp
   rw [iterK_s]; simp only [index_rises_api_Item_l0b]
   obtain ⟨y, hy⟩ := isome (l := its) (i := i) (by omega)
   obtain ⟨x, hx⟩ := isome (l := its) (i := i + 1) (by omega)
   obtain ⟨q, b1, b2, _⟩ := (R.keeps kp).ld itC_len (by decide) hy
   obtain ⟨q', c1, c2, _⟩ := (R.keeps kp).ld itC_len (by decide) hx
   have e1 : IntKind.wrap .i64 (((i + 1 : Nat) : Int) - 1) = (i : Int) := by rw [Gx.w64 _ (by omega)]; omega
   rw [e1]
   refine .ifp (by rw [R.len]; simp; omega) (.bnd b1 (.bnd b2 (.bnd (decI6 y) (.bnd c1 (.bnd c2 (.bnd (decI6 x) (dd_lessI (x := y) (y := x) hk rfl fun h' k' => .bnd rfl ?_)))))))
   by_cases c : lessI y x = true
   ·refine .ifn (by simp [c]) ?_
    rw [Gx.w1 (by omega)]
    exact ih (i + 1) h' (by omega) (kp.trans k') (pw_snoc LessI_trans hp hy hx c)
   ·exact .ifp (by simp [c]) (.of ⟨⟨fun e => (Bool.false_ne_true e).elim, fun e => absurd e (pw_not hy hx c)⟩, kp.trans k'⟩)
 by_cases c0 : its = []
 ·subst c0
  exact loop 0 0 h rfl (.refl _ _) List.Pairwise.nil
 ·have : 0 < its.length := List.length_pos_iff.2 c0
  obtain ⟨y, hy⟩ := isome (l := its) (i := 0) this
  exact loop (its.length - 1) 0 h (by omega) (.refl _ _) (by rw [List.take_add_one, hy]; simp)
theorem isid_spec (D : CallF) (s : ByteArray) (h : AHeap) : sha_IsId k D s h = some (decide (s.size = 32), h) := by
 simp only [sha_IsId]
 by_cases c : s.size = 32
 ·simp [c]
 ·simp [c]; omega
theorem check_file (hk : 100 ≤ k) (R : Row encS h fs sup) (S : RowW 6 itC h fi its) (hl : sup.length + its.length + 20 ≤ k) (hb : sup.length + its.length < 9000000000000000000) :
  Gx.Wp (index_check k (DD k) (fs, fi) h) fun z => z.1 = chkF sup its ∧ Keeps h z.2 := by
 simp only [index_check]
 refine Wp.newE fun H1 e1 k1 n1 g1 => Gx.Wp.jn fun j4 h4 => ?_
 have l0 : ∀ {H : AHeap}, Keeps H1 H → ldL ⟨h.next, 0, none⟩ H = some fs := fun kk => sldL_at (kk.got (by omega) g1) rfl
 have l1 : ∀ {H : AHeap}, Keeps H1 H → ldL ⟨h.next, 1, none⟩ H = some fi := fun kk => sldL_at (kk.got (by omega) g1) rfl
 refine .bnd (l0 (.refl _ _)) ?_
 unfold index_check_l1
 obtain ⟨bot, eb⟩ := iterK_of (fun _ _ _ _ _ => none) (index_check_l1b k (DD k) j4) (show sup.length + 1 ≤ k by omega)
 rw [eb]
 have loop : ∀ (d i : Nat), i + d = sup.length → (∀ s ∈ sup.take i, s.size = 32) → Gx.Wp (iterK bot (d + 1) (index_check_l1b k (DD k) j4) (some ⟨h.next, 0, none⟩) fs (fs.len : Int) (i : Int) H1) fun z => z.1 = chkF sup its ∧ Keeps h z.2 := fun d => by
  induction d with
  | succ d ih =>
   intro i hd hs
   rw [iterK_s]; simp only [index_check_l1b]
   obtain ⟨x, hx⟩ := isome (l := sup) (i := i) (by omega)
   obtain ⟨q, b1, b2⟩ := Row.ldS (R.keeps k1) hx
   refine .ifp (by rw [show fs.len = sup.length from R.1]; simp; omega) (.bnd b1 (.bnd b2 (.bnd (isid_spec _ _ _) ?_)))
   by_cases c : x.size = 32
   ·refine .ifn (by simp [c]) ?_
    rw [Gx.w1 (by omega)]
    refine ih (i + 1) (by omega) fun s hs2 => ?_
    rw [List.take_add_one, hx] at hs2
    rcases List.mem_append.1 hs2 with g | g
    ·exact hs s g
    ·have : s = x := by simpa using g
     rw [this]; exact c
   ·refine .ifp (by simp [c]) (.of ⟨?_, k1⟩)
    unfold chkF
    rw [if_neg (fun q => c (q.1 x (mem_of hx)))]
  | zero =>
   intro i hd hs
   rw [iterK_s]; simp only [index_check_l1b]
   rw [List.take_of_length_le (by omega)] at hs
   refine .ifn (by rw [show fs.len = sup.length from R.1]; simp; omega) ?_
   rw [h4]
   refine Gx.Wp.jn fun j7 h7 => .bnd rfl (.bnd (l1 (.refl _ _)) ?_)
   unfold index_check_l0
   obtain ⟨bot2, eb2⟩ := iterK_of (fun _ _ _ _ _ => none) (index_check_l0b k (DD k) j7) (show its.length + 1 ≤ k by omega)
   rw [eb2]
   have loop2 : ∀ (d i : Nat) (H : AHeap), i + d = its.length → Keeps H1 H → (∀ x ∈ its.take i, okI x) → Gx.Wp (iterK bot2 (d + 1) (index_check_l0b k (DD k) j7) (some ⟨h.next, 0, none⟩) fi (fi.len : Int) (i : Int) H) fun z => z.1 = chkF sup its ∧ Keeps h z.2 := fun d => by
    induction d with
    | succ d ih =>
     intro i H hd kp hi
     rw [iterK_s]; simp only [index_check_l0b]
     obtain ⟨x, hx⟩ := isome (l := its) (i := i) (by omega)
     obtain ⟨q, b1, b2, _⟩ := (S.keeps (k1.trans kp)).ld itC_len (by decide) hx
     refine .ifp (by rw [S.len]; simp; omega) (.bnd b1 (.bnd b2 (.bnd (decI6 x) (Wp.newE fun H3 e3 k3 n3 g3 => Wp.stL g3 rfl rfl rfl (by decide) fun H5 c5 n5 g5 => ?_))))
     have k5 : Keeps H1 H5 := kp.trans (k3.keepsS c5 fun y hy => by subst hy; omega)
     have gx : H5.get H.next = some (.cells (itC x) 57 true 0) := g5
     refine .bnd (sldA_at gx rfl) (.bnd (decI6 x) (.call (check_spec k _ x H5) fun r ⟨q1, q2⟩ => ?_))
     by_cases c : okI x
     ·have h0 : r.1 = 0 := by rw [q1]; unfold chkI; rw [if_pos c]
      refine .ifn (by simp [h0]) ?_
      rw [Gx.w1 (by omega)]
      refine ih (i + 1) r.2 (by omega) (k5.trans q2) fun z hz => ?_
      rw [List.take_add_one, hx] at hz
      rcases List.mem_append.1 hz with g | g
      ·exact hi z g
      ·have : z = x := by simpa using g
       rw [this]; exact c
     ·have h0 : r.1 = 1 := by rw [q1]; unfold chkI; rw [if_neg c]
      refine .ifp (by simp [h0]) (.of ⟨?_, k1.trans (k5.trans q2)⟩)
      rw [h0]; unfold chkF
      rw [if_neg (fun q => c (q.2 x (mem_of hx)))]
    | zero =>
     intro i H hd kp hi
     rw [iterK_s]; simp only [index_check_l0b]
     rw [List.take_of_length_le (by omega)] at hi
     refine .ifn (by rw [S.len]; simp; omega) ?_
     rw [h7]
     have hsz : sizeOk sup its := ⟨hs, hi⟩
     refine Gx.Wp.jn fun j10 h10 => .bnd rfl (.bnd (l0 kp) (.call (risesS_spec (R.keeps (k1.trans kp)) (by omega) (by omega)) fun r1 ⟨q1, e1⟩ => ?_))
     have kr := kp.trans e1
     by_cases c : sup.Pairwise ltB
     ·refine .ifn (by simp [q1.2 c]) (.bnd rfl (.bnd (l1 kr) (.call (risesI_spec hk (S.keeps (k1.trans kr)) (by omega) (by omega)) fun r2 ⟨q2, e2⟩ => ?_)))
      rw [h10]
      by_cases c2 : its.Pairwise LessI
      ·refine .ifn (by simp [q2.2 c2]) (.of ⟨?_, k1.trans (kr.trans e2)⟩)
       unfold chkF
       rw [if_pos hsz, if_pos ⟨c, c2⟩]
      ·have : r2.1 = false := by cases e : r2.1; rfl; exact absurd (q2.1 e) c2
       refine .ifp (by simp [this]) (.of ⟨?_, k1.trans (kr.trans e2)⟩)
       unfold chkF
       rw [if_pos hsz, if_neg (fun q => c2 q.2)]
     ·have : r1.1 = false := by cases e : r1.1; rfl; exact absurd (q1.1 e) c
      rw [h10]
      refine .ifp (by simp [this]) (.ifp rfl (.of ⟨?_, k1.trans kr⟩))
      unfold chkF
      rw [if_pos hsz, if_neg (fun q => c q.1)]
   exact loop2 its.length 0 H1 (by omega) (.refl _ _) (fun x hx => by simp at hx)
 exact loop sup.length 0 (by omega) (fun x hx => by simp at hx)
end
end Gc
namespace Gc
open Go Gx
section
variable {k : Nat} {h : AHeap} {fs fi : Slc} {sup : List ByteArray} {its : List It}
theorem refused_spec (D : CallF) (R : Row encS h fs sup) (S : RowW 6 itC h fi its) (hl : sup.length + its.length + 20 ≤ k) (hb : sup.length + its.length < 9000000000000000000) :
  Gx.Wp (ref16_refused k D (fs, fi) h) fun z => z.1 = chkF sup its ∧ Keeps h z.2 := by
 simp only [ref16_refused]
 refine Wp.newE fun H1 e1 k1 n1 g1 => Gx.Wp.jn fun j4 h4 => ?_
 have l0 : ∀ {H : AHeap}, Keeps H1 H → ldL ⟨h.next, 0 + 0, none⟩ H = some fs := fun kk => sldL_at (kk.got (by omega) g1) rfl
 have l1 : ∀ {H : AHeap}, Keeps H1 H → ldL ⟨h.next, 0 + 1, none⟩ H = some fi := fun kk => sldL_at (kk.got (by omega) g1) rfl
 have fl : (fs.len : Int) = (sup.length : Int) := by rw [show fs.len = sup.length from R.1]
 have il : (fi.len : Int) = (its.length : Int) := by rw [S.len]
 unfold ref16_refused_l3
 obtain ⟨bot, eb⟩ := iterK_of (fun _ _ _ => none) (ref16_refused_l3b k D j4) (show sup.length + 1 ≤ k by omega)
 rw [eb]
 have loop : ∀ (d i : Nat), i + d = sup.length → (∀ s ∈ sup.take i, s.size = 32) → Gx.Wp (iterK bot (d + 1) (ref16_refused_l3b k D j4) (some ⟨h.next, 0, none⟩) (i : Int) H1) fun z => z.1 = chkF sup its ∧ Keeps h z.2 := fun d => by
  induction d with
  | succ d ih =>
   intro i hd hs
   rw [iterK_s]; simp only [ref16_refused_l3b]
   obtain ⟨x, hx⟩ := isome (l := sup) (i := i) (by omega)
   obtain ⟨q, b1, b2⟩ := Row.ldS (R.keeps k1) hx
   refine .bnd rfl (.bnd (l0 (.refl _ _)) (.ifp (by rw [fl]; simp; omega) (.bnd rfl (.bnd (l0 (.refl _ _)) (.bnd b1 (.bnd b2 ?_))))))
   by_cases c : x.size = 32
   ·refine .ifn (by simp [c]) ?_
    rw [Gx.w1 (by omega)]
    refine ih (i + 1) (by omega) fun s hs2 => ?_
    rw [List.take_add_one, hx] at hs2
    rcases List.mem_append.1 hs2 with g | g
    ·exact hs s g
    ·have : s = x := by simpa using g
     rw [this]; exact c
   ·refine .ifp (by simp; omega) (.of ⟨?_, k1⟩)
    unfold chkF
    rw [if_neg (fun q => c (q.1 x (mem_of hx)))]
  | zero =>
   intro i hd hs
   rw [iterK_s]; simp only [ref16_refused_l3b]
   rw [List.take_of_length_le (by omega)] at hs
   refine .bnd rfl (.bnd (l0 (.refl _ _)) (.ifn (by rw [fl]; simp; omega) ?_))
   rw [h4]
   refine Gx.Wp.jn fun j7 h7 => ?_
   unfold ref16_refused_l2
   obtain ⟨bot2, eb2⟩ := iterK_of (fun _ _ _ => none) (ref16_refused_l2b k D j7) (show its.length + 1 ≤ k by omega)
   rw [eb2]
   have loop2 : ∀ (d i : Nat) (H : AHeap), i + d = its.length → Keeps H1 H → (∀ x ∈ its.take i, okI x) → Gx.Wp (iterK bot2 (d + 1) (ref16_refused_l2b k D j7) (some ⟨h.next, 0, none⟩) (i : Int) H) fun z => z.1 = chkF sup its ∧ Keeps h z.2 := fun d => by
    induction d with
    | succ d ih =>
     intro i H hd kp hi
     rw [iterK_s]; simp only [ref16_refused_l2b]
     obtain ⟨x, hx⟩ := isome (l := its) (i := i) (by omega)
     obtain ⟨q, b1, b2, _⟩ := (S.keeps (k1.trans kp)).ld itC_len (by decide) hx
     refine .bnd rfl (.bnd (l1 kp) (.ifp (by rw [il]; simp; omega) (.bnd rfl (.bnd (l1 kp) (.bnd b1 (.bnd b2 (.bnd (decI6 x) (.call (rcheck_spec k D x H) fun r ⟨q1, q2⟩ => ?_))))))))
     by_cases c : okI x
     ·have h0 : r.1 = 0 := by rw [q1]; unfold chkI; rw [if_pos c]
      refine .ifn (by simp [h0]) ?_
      rw [Gx.w1 (by omega)]
      refine ih (i + 1) r.2 (by omega) (kp.trans q2) fun z hz => ?_
      rw [List.take_add_one, hx] at hz
      rcases List.mem_append.1 hz with g | g
      ·exact hi z g
      ·have : z = x := by simpa using g
       rw [this]; exact c
     ·have h0 : r.1 = 1 := by rw [q1]; unfold chkI; rw [if_neg c]
      refine .ifp (by simp [h0]) (.of ⟨?_, k1.trans (kp.trans q2)⟩)
      unfold chkF
      rw [if_neg (fun q => c (q.2 x (mem_of hx)))]
    | zero =>
     intro i H hd kp hi
     rw [iterK_s]; simp only [ref16_refused_l2b]
     rw [List.take_of_length_le (by omega)] at hi
     refine .bnd rfl (.bnd (l1 kp) (.ifn (by rw [il]; simp; omega) ?_))
     rw [h7]
     have hsz : sizeOk sup its := ⟨hs, hi⟩
     refine Gx.Wp.jn fun j10 h10 => ?_
     unfold ref16_refused_l1
     obtain ⟨bot1, eb1⟩ := iterK_of (fun _ _ _ => none) (ref16_refused_l1b k D j10) (show (sup.length - 1) + 1 ≤ k by omega)
     rw [eb1]
     have loop1 : ∀ (d i : Nat), (i + 1) + d = max sup.length 1 → (sup.take (i + 1)).Pairwise ltB → Gx.Wp (iterK bot1 (d + 1) (ref16_refused_l1b k D j10) (some ⟨h.next, 0, none⟩) ((i + 1 : Nat) : Int) H) fun z => z.1 = chkF sup its ∧ Keeps h z.2 := fun d => by
      induction d with
      | succ d ih =>
       intro i hd hp
       rw [iterK_s]; simp only [ref16_refused_l1b]
       obtain ⟨y, hy⟩ := isome (l := sup) (i := i) (by omega)
       obtain ⟨x, hx⟩ := isome (l := sup) (i := i + 1) (by omega)
       obtain ⟨q, b1, b2⟩ := Row.ldS (R.keeps (k1.trans kp)) hy
       obtain ⟨q', c1, c2⟩ := Row.ldS (R.keeps (k1.trans kp)) hx
       have e1 : IntKind.wrap .i64 (((i + 1 : Nat) : Int) - 1) = (i : Int) := by rw [Gx.w64 _ (by omega)]; omega
       rw [e1]
       refine .bnd rfl (.bnd (l0 kp) (.ifp (by rw [fl]; simp; omega) (.bnd rfl (.bnd (l0 kp) (.bnd b1 (.bnd b2 (.bnd rfl (.bnd (l0 kp) (.bnd c1 (.bnd c2 ?_))))))))))
       rw [less_eq]
       by_cases c : ltB y x
       ·refine .ifn (by rw [decide_eq_true (show bl y < bl x from c)]; decide) ?_
        rw [Gx.w1 (by omega)]
        exact ih (i + 1) (by omega) (pw_snoc ltB_trans hp hy hx c)
       ·refine .ifp (by rw [decide_eq_false (show ¬ bl y < bl x from c)]; decide) (.of ⟨?_, k1.trans kp⟩)
        unfold chkF
        rw [if_pos hsz, if_neg (fun q => pw_not hy hx c q.1)]
      | zero =>
       intro i hd hp
       rw [iterK_s]; simp only [ref16_refused_l1b]
       rw [List.take_of_length_le (by omega)] at hp
       refine .bnd rfl (.bnd (l0 kp) (.ifn (by rw [fl]; simp; omega) ?_))
       rw [h10]
       refine Gx.Wp.jn fun j12 h12 => ?_
       unfold ref16_refused_l0
       obtain ⟨bot0, eb0⟩ := iterK_of (fun _ _ _ => none) (ref16_refused_l0b k D j12) (show (its.length - 1) + 1 ≤ k by omega)
       rw [eb0]
       have loop0 : ∀ (d i : Nat) (H : AHeap), (i + 1) + d = max its.length 1 → Keeps H1 H → (its.take (i + 1)).Pairwise LessI → Gx.Wp (iterK bot0 (d + 1) (ref16_refused_l0b k D j12) (some ⟨h.next, 0, none⟩) ((i + 1 : Nat) : Int) H) fun z => z.1 = chkF sup its ∧ Keeps h z.2 := fun d => by
        induction d with
        | zero =>
         intro i H hd kp hp2
         rw [iterK_s]; simp only [ref16_refused_l0b]
         refine .bnd rfl (.bnd (l1 kp) (.ifn (by rw [il]; simp; omega) ?_))
         rw [h12]
         rw [List.take_of_length_le (by omega)] at hp2
         refine .of ⟨?_, k1.trans kp⟩
         unfold chkF
         rw [if_pos hsz, if_pos ⟨hp, hp2⟩]
        | succ d ih =>
         intro i H hd kp hp2
         rw [iterK_s]; simp only [ref16_refused_l0b]
         obtain ⟨y, hy⟩ := isome (l := its) (i := i) (by omega)
         obtain ⟨x, hx⟩ := isome (l := its) (i := i + 1) (by omega)
         obtain ⟨q, b1, b2, _⟩ := (S.keeps (k1.trans kp)).ld itC_len (by decide) hy
         obtain ⟨q', c1, c2, _⟩ := (S.keeps (k1.trans kp)).ld itC_len (by decide) hx
         have e1 : IntKind.wrap .i64 (((i + 1 : Nat) : Int) - 1) = (i : Int) := by rw [Gx.w64 _ (by omega)]; omega
         rw [e1]
         refine .bnd rfl (.bnd (l1 kp) (.ifp (by rw [il]; simp; omega) (.bnd rfl (.bnd (l1 kp) (.bnd b1 (.bnd b2 (.bnd (decI6 y) (.bnd rfl (.bnd (l1 kp) (.bnd c1 (.bnd c2 (.bnd (decI6 x) (.call (rless_spec k D y x H) fun r ⟨q1, q2⟩ => ?_)))))))))))))
         rw [q1]
         by_cases c : lessI y x = true
         ·refine .ifn (by simp [c]) ?_
          rw [Gx.w1 (by omega)]
          exact ih (i + 1) r.2 (by omega) (kp.trans q2) (pw_snoc LessI_trans hp2 hy hx c)
         ·refine .ifp (by simp [c]) (.of ⟨?_, k1.trans (kp.trans q2)⟩)
          unfold chkF
          rw [if_pos hsz, if_neg (fun q => pw_not hy hx c q.2)]
       by_cases c0 : its = []
       ·subst c0
        exact loop0 0 0 H rfl kp List.Pairwise.nil
       ·have : 0 < its.length := List.length_pos_iff.2 c0
        obtain ⟨y, hy⟩ := isome (l := its) (i := 0) this
        exact loop0 (its.length - 1) 0 H (by omega) kp (by rw [List.take_add_one, hy]; simp)
     by_cases c0 : sup = []
     ·subst c0
      exact loop1 0 0 rfl List.Pairwise.nil
     ·have : 0 < sup.length := List.length_pos_iff.2 c0
      obtain ⟨y, hy⟩ := isome (l := sup) (i := 0) this
      exact loop1 (sup.length - 1) 0 (by omega) (by rw [List.take_add_one, hy]; simp)
   exact loop2 its.length 0 H1 (by omega) (.refl _ _) (fun x hx => by simp at hx)
 exact loop sup.length 0 (by omega) (fun x hx => by simp at hx)
end
end Gc
namespace Gc
open Go Gx
def lineB (x : It) : List UInt8 := bl x.1 ++ bl x.2.1 ++ [UInt8.ofNat x.2.2.1.toNat] ++ leb x.2.2.2.1.toNat ++ leb x.2.2.2.2.1.toNat ++ leb x.2.2.2.2.2.toNat
theorem leb3 {n : Nat} (h : n ≤ 65536) : (leb n).length ≤ 3 := leb_len 2 n (by omega)
theorem lineB_len {x : It} (h : okI x) : (lineB x).length ≤ 74 := by
 obtain ⟨h1, h2, h3, h4, h5, h6⟩ := h
 have a := leb3 (n := x.2.2.2.1.toNat) (by omega)
 have b := leb3 (n := x.2.2.2.2.1.toNat) (by omega)
 have c := leb3 (n := x.2.2.2.2.2.toNat) (by omega)
 have e1 : (bl x.1).length = 32 := h1
 have e2 : (bl x.2.1).length = 32 := h2
 simp only [lineB, List.length_append, List.length_singleton]
 omega
theorem bA_bl (s : ByteArray) : bA (bl s) = s := rfl
theorem oneB {H : AHeap} {b : Nat} {v : Int} {e : TypeId} (hg : H.get b = some (.cells [.int .u8 v] e true 0)) : bytesOf H ⟨some ⟨b, 0, some 0⟩, 1, 1⟩ = some (bA [UInt8.ofNat v.toNat]) := by
 simp only [bytesOf]
 rw [rdL_ok hg (by simp)]
 rfl
section
variable {k : Nat} {h : AHeap}
theorem line_spec (D : CallF) (hk : 20 ≤ k) {x : It} (ok : okI x) (h : AHeap) : Gx.Wp (index_line k D x h) fun z => z.1 = bA (lineB x) ∧ Keeps h z.2 := by
 have hll := lineB_len ok
 obtain ⟨s1, s2, s3, s4, s5, s6⟩ := ok
 simp only [index_line]
 refine Wp.newE fun h1 e1 k1 n1 g1 => ?_
 obtain ⟨h2, e2⟩ : ∃ h2, h2 = AHeap.resv h1 1 := ⟨_, rfl⟩
 rw [← e2]
 have k2 : Keeps h1 h2 := ⟨by rw [e2]; show h1.next ≤ h1.next + 1; omega, fun b hb _ => by rw [e2]; rfl⟩
 have n2 : h2.next = h1.next + 1 := by rw [e2]; rfl
 have gx : h2.get h.next = some (.cells (itC x) 57 true 0) := k2.got (by omega) g1
 have pi : ∀ {H : AHeap}, Keeps h2 H → ∀ (o : Nat) (n : Int), (itC x)[o]? = some (.int .i64 n) → ldI .i64 ⟨h.next, o, none⟩ H = some n := fun kk o n e => sldI_at (kk.got (by omega) gx) e
 have ps : ∀ {H : AHeap}, Keeps h2 H → ∀ (o : Nat) (t : ByteArray), (itC x)[o]? = some (.string t) → ldS ⟨h.next, o, none⟩ H = some t := fun kk o t e => by
  have := kk.got (by omega) gx
  simp [ldS, AHeap.rd1, this, e, decS]
 obtain ⟨a, ea⟩ : ∃ a : Nat, x.2.2.2.1 = (a : Int) := ⟨x.2.2.2.1.toNat, by omega⟩
 obtain ⟨b, eb⟩ : ∃ b : Nat, x.2.2.2.2.1 = (b : Int) := ⟨x.2.2.2.2.1.toNat, by omega⟩
 obtain ⟨c, ec⟩ : ∃ c : Nat, x.2.2.2.2.2 = (c : Int) := ⟨x.2.2.2.2.2.toNat, by omega⟩
 have k0 : Keeps h2 h2 := .refl _ _
 have i3 : (itC x)[3]? = some (.int .i64 (a : Int)) := by rw [← ea]; rfl
 have i4 : (itC x)[4]? = some (.int .i64 (b : Int)) := by rw [← eb]; rfl
 have i5 : (itC x)[5]? = some (.int .i64 (c : Int)) := by rw [← ec]; rfl
 refine .bnd (pi k0 3 _ i3) (.call (ishort_spec D hk a (by omega) h2) fun r4 ⟨q4, k4⟩ => .bnd (pi k4 4 _ i4) (.gp (ssw1 (by rw [pi k0 4 _ i4]; rfl)) (.call (ishort_spec D hk b (by omega) r4.2) fun r8 ⟨q8, k8'⟩ => ?_)))
 have k8 := k4.trans k8'
 refine .bnd (pi k8 5 _ i5) (.gp (fun H hH => ?_) (.call (ishort_spec D hk c (by omega) r8.2) fun r12 ⟨q12, k12'⟩ => ?_))
 ·simp only [List.mem_cons, List.not_mem_nil, or_false] at hH
  dsimp only
  rcases hH with e | e
  ·rw [e, pi k4 5 _ i5]; rfl
  ·rw [e, pi k0 5 _ i5]; rfl
 have k12 := k8.trans k12'
 have hs : ∀ (o : Nat) (t : ByteArray), (itC x)[o]? = some (.string t) → SameW [r8.2, r4.2, h2] (fun H => (ldS ⟨h.next, o, none⟩ H).bind fun y => some (.string y)) (.string t) := fun o t e H hH => by
  simp only [List.mem_cons, List.not_mem_nil, or_false] at hH
  dsimp only
  rcases hH with e2 | e2 | e2
  ·rw [e2, ps k8 o t e]; rfl
  ·rw [e2, ps k4 o t e]; rfl
  ·rw [e2, ps k0 o t e]; rfl
 refine .bnd (ps k12 0 x.1 rfl) (.gp (hs 0 x.1 rfl) (.bnd (ps k12 1 x.2.1 rfl) (.gp (hs 1 x.2.1 rfl) (.ifp (by omega) (.bnd (pi k12 2 x.2.2.1 rfl) (.gp (fun H hH => ?_) ?_))))))
 ·simp only [List.mem_cons, List.not_mem_nil, or_false] at hH
  dsimp only
  rcases hH with e | e | e
  ·rw [e, pi k8 2 _ rfl]; rfl
  ·rw [e, pi k4 2 _ rfl]; rfl
  ·rw [e, pi k0 2 _ rfl]; rfl
 have nk := k12.nx
 obtain ⟨h22, e22⟩ : ∃ h22, h22 = AHeap.set r12.2 (h1.next + 0) (.cells [.int .u8 (IntKind.wrap .u8 x.2.2.1)] 5 true 0) := ⟨_, rfl⟩
 rw [← e22]
 have g22 : h22.get (h1.next + 0) = some (.cells [.int .u8 (IntKind.wrap .u8 x.2.2.1)] 5 true 0) := by rw [e22]; simp
 have ew : IntKind.wrap .u8 x.2.2.1 = x.2.2.1 := Gx.w8 _ (by omega)
 have kz : Keeps h h22 := by rw [e22]; exact Keeps.set (Chg.trans (Chg.trans k1 k2) k12) (by omega)
 refine .bnd (oneB g22) (.gp ⟨_, g22, fun H hH => by dsimp only; rw [oneB hH]; rfl⟩ ?_)
 rw [q4, q8, q12, ew]
 have z1 : (x.1 ++ x.2.1) = bA (bl x.1 ++ bl x.2.1) := by rw [← bA_app, bA_bl, bA_bl]
 rw [z1, bA_app, bA_app, bA_app, bA_app]
 have zl : (lineB x) = ((((bl x.1 ++ bl x.2.1) ++ [UInt8.ofNat x.2.2.1.toNat]) ++ leb a) ++ leb b) ++ leb c := by
  unfold lineB
  rw [ea, eb, ec]; rfl
 rw [zl] at hll
 simp only [bA_size, List.length_append] at hll ⊢
 refine .ifp (by omega) (.ifp (by omega) (.ifp (by omega) (.ifp (by omega) (.of ⟨?_, kz⟩))))
 rw [zl]
theorem rline_spec (D : CallF) (hk : 20 ≤ k) {x : It} (ok : okI x) (h : AHeap) : Gx.Wp (ref16_line k D x h) fun z => z.1 = bA (lineB x) ∧ Keeps h z.2 := by
 have hll := lineB_len ok
 obtain ⟨s1, s2, s3, s4, s5, s6⟩ := ok
 simp only [ref16_line]
 refine Wp.newE fun h1 e1 k1 n1 g1 => ?_
 have gx0 : h1.get h.next = some (.cells (itC x) 57 true 0) := g1
 have ld5 : ldA 5 ⟨h.next, 1, none⟩ h1 = some ([.string x.2.1, .int .i64 x.2.2.1, .int .i64 x.2.2.2.1, .int .i64 x.2.2.2.2.1, .int .i64 x.2.2.2.2.2]) := by simp only [ldA, AHeap.rdL, gx0]; rfl
 refine .bnd ld5 (.bnd (show decC [.s, .i .i64, .i .i64, .i .i64, .i .i64] [.string x.2.1, .int .i64 x.2.2.1, .int .i64 x.2.2.2.1, .int .i64 x.2.2.2.2.1, .int .i64 x.2.2.2.2.2] = some x.2 from rfl) (Wp.newE fun h4 e4 k4 n4 g4 => Wp.stL g4 rfl rfl rfl (by decide) fun h5 c5 n5 g5 => ?_))
 have k5 : Keeps h1 h5 := k4.keepsS c5 fun y hy => by subst hy; omega
 obtain ⟨h6, e6⟩ : ∃ h6, h6 = AHeap.resv h5 1 := ⟨_, rfl⟩
 rw [← e6]
 have k6 : Keeps h5 h6 := ⟨by rw [e6]; show h5.next ≤ h5.next + 1; omega, fun b hb _ => by rw [e6]; rfl⟩
 have n6 : h6.next = h5.next + 1 := by rw [e6]; rfl
 have k16 : Keeps h1 h6 := k5.trans k6
 have gx : h6.get h.next = some (.cells (itC x) 57 true 0) := k16.got (by omega) gx0
 have gp : h6.get h1.next = some (.cells [.string x.2.1, .int .i64 x.2.2.1, .int .i64 x.2.2.2.1, .int .i64 x.2.2.2.2.1, .int .i64 x.2.2.2.2.2] 55 true 0) := k6.got (by omega) g5
 have pi : ∀ {H : AHeap}, Keeps h6 H → ∀ (o : Nat) (n : Int), ([.string x.2.1, .int .i64 x.2.2.1, .int .i64 x.2.2.2.1, .int .i64 x.2.2.2.2.1, .int .i64 x.2.2.2.2.2] : List Value)[o]? = some (.int .i64 n) → ldI .i64 ⟨h1.next, o, none⟩ H = some n := fun kk o n e => sldI_at (kk.got (by omega) gp) e
 have ps : ∀ {H : AHeap}, Keeps h6 H → ldS ⟨h.next, 0, none⟩ H = some x.1 := fun kk => by
  have := kk.got (by omega) gx
  simp [ldS, AHeap.rd1, this, itC, decS]
 have pt : ∀ {H : AHeap}, Keeps h6 H → ldS ⟨h1.next, 0, none⟩ H = some x.2.1 := fun kk => by
  have := kk.got (by omega) gp
  simp [ldS, AHeap.rd1, this, decS]
 obtain ⟨a, ea⟩ : ∃ a : Nat, x.2.2.2.1 = (a : Int) := ⟨x.2.2.2.1.toNat, by omega⟩
 obtain ⟨b, eb⟩ : ∃ b : Nat, x.2.2.2.2.1 = (b : Int) := ⟨x.2.2.2.2.1.toNat, by omega⟩
 obtain ⟨c, ec⟩ : ∃ c : Nat, x.2.2.2.2.2 = (c : Int) := ⟨x.2.2.2.2.2.toNat, by omega⟩
 have k0 : Keeps h6 h6 := .refl _ _
 have i3 : ([.string x.2.1, .int .i64 x.2.2.1, .int .i64 x.2.2.2.1, .int .i64 x.2.2.2.2.1, .int .i64 x.2.2.2.2.2] : List Value)[2]? = some (.int .i64 (a : Int)) := by rw [← ea]; rfl
 have i4 : ([.string x.2.1, .int .i64 x.2.2.1, .int .i64 x.2.2.2.1, .int .i64 x.2.2.2.2.1, .int .i64 x.2.2.2.2.2] : List Value)[3]? = some (.int .i64 (b : Int)) := by rw [← eb]; rfl
 have i5 : ([.string x.2.1, .int .i64 x.2.2.1, .int .i64 x.2.2.2.1, .int .i64 x.2.2.2.2.1, .int .i64 x.2.2.2.2.2] : List Value)[4]? = some (.int .i64 (c : Int)) := by rw [← ec]; rfl
 refine .bnd (pi k0 2 _ i3) (.call (small_spec D hk a (by omega) h6) fun r4 ⟨q4, kk4⟩ => .bnd (pi kk4 3 _ i4) (.gp (ssw1 (by rw [pi k0 3 _ i4]; rfl)) (.call (small_spec D hk b (by omega) r4.2) fun r8 ⟨q8, k8'⟩ => ?_)))
 have k8 := kk4.trans k8'
 refine .bnd (pi k8 4 _ i5) (.gp (fun H hH => ?_) (.call (small_spec D hk c (by omega) r8.2) fun r12 ⟨q12, k12'⟩ => ?_))
 ·simp only [List.mem_cons, List.not_mem_nil, or_false] at hH
  dsimp only
  rcases hH with e | e
  ·rw [e, pi kk4 4 _ i5]; rfl
  ·rw [e, pi k0 4 _ i5]; rfl
 have k12 := k8.trans k12'
 refine .bnd (ps k12) (.gp (fun H hH => ?_) (.bnd (pt k12) (.gp (fun H hH => ?_) (.ifp (by omega) (.bnd (pi k12 1 x.2.2.1 rfl) (.gp (fun H hH => ?_) ?_))))))
 ·simp only [List.mem_cons, List.not_mem_nil, or_false] at hH
  dsimp only
  rcases hH with e | e | e
  ·rw [e, ps k8]; rfl
  ·rw [e, ps kk4]; rfl
  ·rw [e, ps k0]; rfl
 ·simp only [List.mem_cons, List.not_mem_nil, or_false] at hH
  dsimp only
  rcases hH with e | e | e
  ·rw [e, pt k8]; rfl
  ·rw [e, pt kk4]; rfl
  ·rw [e, pt k0]; rfl
 ·simp only [List.mem_cons, List.not_mem_nil, or_false] at hH
  dsimp only
  rcases hH with e | e | e
  ·rw [e, pi k8 1 _ rfl]; rfl
  ·rw [e, pi kk4 1 _ rfl]; rfl
  ·rw [e, pi k0 1 _ rfl]; rfl
 have nk := k12.nx
 have nk5 := k5.nx
 obtain ⟨h22, e22⟩ : ∃ h22, h22 = AHeap.set r12.2 (h5.next + 0) (.cells [.int .u8 (IntKind.wrap .u8 x.2.2.1)] 5 true 0) := ⟨_, rfl⟩
 rw [← e22]
 have g22 : h22.get (h5.next + 0) = some (.cells [.int .u8 (IntKind.wrap .u8 x.2.2.1)] 5 true 0) := by rw [e22]; simp
 have ew : IntKind.wrap .u8 x.2.2.1 = x.2.2.1 := Gx.w8 _ (by omega)
 have kz : Keeps h h22 := by rw [e22]; exact Keeps.set (Chg.trans (Chg.trans k1 k16) k12) (by omega)
 refine .bnd (oneB g22) (.gp ⟨_, g22, fun H hH => by dsimp only; rw [oneB hH]; rfl⟩ ?_)
 rw [q4, q8, q12, ew]
 have z1 : (x.1 ++ x.2.1) = bA (bl x.1 ++ bl x.2.1) := by rw [← bA_app, bA_bl, bA_bl]
 rw [z1, bA_app, bA_app, bA_app, bA_app]
 have zl : (lineB x) = ((((bl x.1 ++ bl x.2.1) ++ [UInt8.ofNat x.2.2.1.toNat]) ++ leb a) ++ leb b) ++ leb c := by
  unfold lineB
  rw [ea, eb, ec]; rfl
 rw [zl] at hll
 simp only [bA_size, List.length_append] at hll ⊢
 refine .ifp (by omega) (.ifp (by omega) (.ifp (by omega) (.ifp (by omega) (.of ⟨?_, kz⟩))))
 rw [zl]
end
end Gc
namespace Gc
open Go Gx
def headB : List UInt8 := [71, 82, 84, 73, 1]
def supB (sup : List ByteArray) : List UInt8 := sup.flatMap bl
def itsB (its : List It) : List UInt8 := its.flatMap lineB
def textB (sup : List ByteArray) (its : List It) : List UInt8 := headB ++ leb sup.length ++ supB sup ++ leb its.length ++ itsB its
theorem supB_len {sup : List ByteArray} (h : ∀ s ∈ sup, s.size = 32) : (supB sup).length = 32 * sup.length := by
 induction sup with
 | nil => rfl
 | cons s sup ih =>
  have e : (bl s).length = 32 := h s (List.mem_cons_self ..)
  simp only [supB, List.flatMap_cons, List.length_append, List.length_cons]
  have := ih fun t ht => h t (List.mem_cons_of_mem _ ht)
  unfold supB at this
  omega
theorem itsB_len {its : List It} (h : ∀ x ∈ its, okI x) : (itsB its).length ≤ 74 * its.length := by
 induction its with
 | nil => exact Nat.le_refl _
 | cons x its ih =>
  have e := lineB_len (h x (List.mem_cons_self ..))
  simp only [itsB, List.flatMap_cons, List.length_append, List.length_cons]
  have := ih fun t ht => h t (List.mem_cons_of_mem _ ht)
  unfold itsB at this
  omega
theorem textB_len {sup : List ByteArray} {its : List It} (h : sizeOk sup its) (h1 : sup.length ≤ 4096) (h2 : its.length ≤ 4096) : (textB sup its).length ≤ 500000 := by
 have a := leb_len 1 sup.length (by omega)
 have b := leb_len 1 its.length (by omega)
 have c := supB_len h.1
 have d := itsB_len h.2
 simp only [textB, List.length_append, headB, List.length_cons, List.length_nil]
 omega
theorem dec65 (n : Nat) : decide ((n : Int) ≤ 65536) = decide (n ≤ 65536) := by
 by_cases h : n ≤ 65536
 ·rw [decide_eq_true h, decide_eq_true (by omega)]
 ·rw [decide_eq_false h, decide_eq_false (by omega)]
section
variable {k : Nat} {h : AHeap} {fs fi : Slc} {sup : List ByteArray} {its : List It}
theorem text_spec (D : CallF) (hk : 5000 ≤ k) (R : Row encS h fs sup) (S : RowW 6 itC h fi its) (ok : sizeOk sup its) (hb : sup.length + its.length < 9000000000000000000) :
  Gx.Wp (index_text k D (fs, fi) h) fun z => (if 4096 < sup.length ∨ 4096 < its.length then z.1 = (⟨#[]⟩, false) else z.1 = (bA (textB sup its), decide ((textB sup its).length ≤ 65536))) ∧ Keeps h z.2 := by
 simp only [index_text]
 have fl : (fs.len : Int) = (sup.length : Int) := by rw [show fs.len = sup.length from R.1]
 have il : (fi.len : Int) = (its.length : Int) := by rw [S.len]
 refine Wp.newE fun h1 e1 k1 n1 g1 => ?_
 have l0 : ∀ {H : AHeap}, Keeps h1 H → ldL ⟨h.next, 0, none⟩ H = some fs := fun kk => sldL_at (kk.got (by omega) g1) rfl
 have l1 : ∀ {H : AHeap}, Keeps h1 H → ldL ⟨h.next, 1, none⟩ H = some fi := fun kk => sldL_at (kk.got (by omega) g1) rfl
 refine .bnd (l0 (.refl _ _)) (.bnd (l1 (.refl _ _)) ?_)
 by_cases c : 4096 < sup.length ∨ 4096 < its.length
 ·refine .ifp ?_ (.of ⟨by rw [if_pos c], k1⟩)
  rw [fl, il]
  by_cases c2 : its.length > sup.length
  ·rw [if_pos (by omega)]; simp; omega
  ·rw [if_neg (by omega)]; simp; omega
 refine Gx.Wp.mono (Q := fun z => z.1 = (bA (textB sup its), decide ((textB sup its).length ≤ 65536)) ∧ Keeps h z.2) ?_ fun z hz => by rw [if_neg c]; exact hz
 have c1 : sup.length ≤ 4096 := by omega
 have c2 : its.length ≤ 4096 := by omega
 have htl := textB_len ok c1 c2
 refine .ifn ?_ (Wp.newE fun h5 e5 k5 n5 g5 => ?_)
 ·rw [fl, il]
  by_cases c2 : its.length > sup.length
  ·rw [if_pos (by omega)]; simp; omega
  ·rw [if_neg (by omega)]; simp; omega
 have B5 : BuS h1.next h5 h1.next ⟨none, 0, 0⟩ [] := BuS.new h1 g5 n5
 refine .bnd (l0 k5) ?_
 rw [fl]
 refine .call (ishort_spec D (by omega) sup.length (by omega) h5) fun r7 ⟨q7, k7⟩ => ?_
 rw [q7]
 have a3 := leb_len 1 sup.length (by omega)
 have b3 := leb_len 1 its.length (by omega)
 have sl := supB_len ok.1
 have tl := itsB_len ok.2
 refine .ifp (by rw [bA_size]; show 5 + _ ≤ _; omega) ?_
 have eh : ((⟨#[71, 82, 84, 73, 1]⟩ : ByteArray) ++ bA (leb sup.length)) = bA (headB ++ leb sup.length) := by rw [← bA_app]; rfl
 rw [eh]
 have kh7 : Keeps h1 r7.2 := k5.trans k7
 refine .call (write_spec D (B5.keeps k7) _ (by rw [bA_size, List.length_append]; show 2 * (0 + (5 + _)) ≤ _; omega)) fun r8 ⟨s8, B8, c8, o8⟩ => ?_
 rw [List.nil_append, show bl (bA (headB ++ leb sup.length)) = headB ++ leb sup.length from rfl] at B8
 have kh8 : Keeps h1 r8.2 := kh7.keepsS c8 fun y hy => ((B5.keeps k7).own hy).1
 refine Gx.Wp.jn fun j12 h12 => .bnd (l0 kh8) ?_
 unfold index_text_l1
 obtain ⟨bot, eb⟩ := iterK_of (fun _ _ _ _ _ _ => none) (index_text_l1b k D j12) (show sup.length + 1 ≤ k by omega)
 rw [eb]
 have loop : ∀ (d i : Nat) (s : Slc) (H : AHeap), i + d = sup.length → Keeps h1 H → BuS h1.next H h1.next s (headB ++ leb sup.length ++ supB (sup.take i)) → Gx.Wp (iterK bot (d + 1) (index_text_l1b k D j12) (some ⟨h.next, 0, none⟩) (some ⟨h1.next, 0, none⟩) fs (fs.len : Int) (i : Int) H) fun z => z.1 = (bA (textB sup its), decide ((textB sup its).length ≤ 65536)) ∧ Keeps h z.2 := fun d => by
  induction d with
  | succ d ih =>
   intro i s H hd kp B
   rw [iterK_s]; simp only [index_text_l1b]
   obtain ⟨x, hx⟩ := isome (l := sup) (i := i) (by omega)
   obtain ⟨q, b1, b2⟩ := Row.ldS (R.keeps (k1.trans kp)) hx
   have hx32 := ok.1 x (mem_of hx)
   have tl2 : (supB (sup.take i)).length = 32 * (sup.take i).length := supB_len fun s hs => ok.1 s (List.mem_of_mem_take hs)
   rw [List.length_take] at tl2
   refine .ifp (by rw [fl]; simp; omega) (.bnd b1 (.bnd b2 (.call (write_spec D B x (by rw [List.length_append, List.length_append, tl2, hx32]; show 2 * (5 + _ + _ + _) ≤ _; omega)) fun r ⟨s2, B2, cc, o2⟩ => ?_)))
   rw [Gx.w1 (by omega)]
   refine ih (i + 1) s2 r.2 (by omega) (kp.keepsS cc fun y hy => (B.own hy).1) ?_
   have : supB (sup.take (i + 1)) = supB (sup.take i) ++ bl x := by rw [List.take_add_one, hx]; simp [supB]
   rw [this, ← List.append_assoc]; exact B2
  | zero =>
   intro i s H hd kp B
   rw [iterK_s]; simp only [index_text_l1b]
   rw [List.take_of_length_le (by omega)] at B
   refine .ifn (by rw [fl]; simp; omega) ?_
   rw [h12]
   refine .bnd rfl (.bnd (show ldL ⟨h.next, 0 + 1, none⟩ H = some fi from l1 kp) ?_)
   rw [il]
   refine .call (ishort_spec D (by omega) its.length (by omega) H) fun r15 ⟨q15, k15⟩ => ?_
   rw [q15]
   refine .call (write_spec D (B.keeps k15) _ (by rw [bA_size, List.length_append, List.length_append, sl]; show 2 * (5 + _ + _ + _) ≤ _; omega)) fun r16 ⟨s16, B16, c16, o16⟩ => ?_
   rw [show bl (bA (leb its.length)) = leb its.length from rfl] at B16
   have kp16 : Keeps h1 r16.2 := (kp.trans k15).keepsS c16 fun y hy => ((B.keeps k15).own hy).1
   refine Gx.Wp.jn fun j19 h19 => .bnd rfl (.bnd (show ldL ⟨h.next, 0 + 1, none⟩ r16.2 = some fi from l1 kp16) ?_)
   unfold index_text_l0
   obtain ⟨bot2, eb2⟩ := iterK_of (fun _ _ _ _ _ => none) (index_text_l0b k D j19) (show its.length + 1 ≤ k by omega)
   rw [eb2]
   have loop2 : ∀ (d i : Nat) (s : Slc) (H : AHeap), i + d = its.length → Keeps h1 H → BuS h1.next H h1.next s (headB ++ leb sup.length ++ supB sup ++ leb its.length ++ itsB (its.take i)) → Gx.Wp (iterK bot2 (d + 1) (index_text_l0b k D j19) (some ⟨h1.next, 0, none⟩) fi (fi.len : Int) (i : Int) H) fun z => z.1 = (bA (textB sup its), decide ((textB sup its).length ≤ 65536)) ∧ Keeps h z.2 := fun d => by
    induction d with
    | succ d ih =>
     intro i s H hd kp B
     rw [iterK_s]; simp only [index_text_l0b]
     obtain ⟨x, hx⟩ := isome (l := its) (i := i) (by omega)
     obtain ⟨q, b1, b2, _⟩ := (S.keeps (k1.trans kp)).ld itC_len (by decide) hx
     have okx := ok.2 x (mem_of hx)
     refine .ifp (by rw [il]; simp; omega) (.bnd b1 (.bnd b2 (.bnd (decI6 x) (Wp.newE fun H3 e3 k3 n3 g3 => Wp.stL g3 rfl rfl rfl (by decide) fun H5 c5 n5 g5 => ?_))))
     have k5 : Keeps H H5 := k3.keepsS c5 fun y hy => by subst hy; omega
     have gx : H5.get H.next = some (.cells (itC x) 57 true 0) := g5
     refine .bnd (sldA_at gx rfl) (.bnd (decI6 x) (.call (line_spec D (by omega) okx H5) fun r ⟨q1, q2⟩ => ?_))
     rw [q1]
     have lx := lineB_len okx
     have tl3 : (itsB (its.take i)).length ≤ 74 * (its.take i).length := itsB_len fun s hs => ok.2 s (List.mem_of_mem_take hs)
     rw [List.length_take] at tl3
     have B5 := B.keeps (k5.trans q2)
     refine .call (write_spec D B5 (bA (lineB x)) (by simp only [bA_size, List.length_append, sl, headB, List.length_cons, List.length_nil]; omega)) fun r2 ⟨s2, B2, cc, o2⟩ => ?_
     rw [Gx.w1 (by omega)]
     refine ih (i + 1) s2 r2.2 (by omega) ((kp.trans (k5.trans q2)).keepsS cc fun y hy => (B5.own hy).1) ?_
     have : itsB (its.take (i + 1)) = itsB (its.take i) ++ lineB x := by rw [List.take_add_one, hx]; simp [itsB]
     rw [this, ← List.append_assoc]; exact B2
    | zero =>
     intro i s H hd kp B
     rw [iterK_s]; simp only [index_text_l0b]
     rw [List.take_of_length_le (by omega)] at B
     refine .ifn (by rw [il]; simp; omega) ?_
     rw [h19]
     have eT : headB ++ leb sup.length ++ supB sup ++ leb its.length ++ itsB its = textB sup its := rfl
     rw [eT] at B
     refine .call (bstring_spec D B (by omega)) fun r20 ⟨q20, c20, pv, g20⟩ => ?_
     have hsl : s.len = (textB sup its).length := B.acc.row.1
     have elen : strings_Builder_Len k D (some ⟨h1.next, 0, none⟩) r20.2 = some (((textB sup its).length : Int), r20.2) := by
      simp only [strings_Builder_Len]
      exact bnd rfl (bnd (sldL_at (o := 0 + 1) g20 rfl) (by rw [hsl]))
     refine .bnd elen (.of ⟨?_, k1.trans (kp.keepsS c20 fun y hy => (B.own hy).1)⟩)
     rw [q20]
     dsimp only
     rw [dec65]
   exact loop2 its.length 0 s16 r16.2 (by omega) kp16 (by simpa [itsB] using B16)
 exact loop sup.length 0 s8 r8.2 (by omega) kh8 (by simpa [supB] using B8)
theorem rtext_spec (D : CallF) (hk : 5000 ≤ k) (R : Row encS h fs sup) (S : RowW 6 itC h fi its) (ok : sizeOk sup its) (c1 : sup.length ≤ 4096) (c2 : its.length ≤ 4096) :
  Gx.Wp (ref16_Text k D (fs, fi) h) fun z => z.1 = bA (textB sup its) ∧ Keeps h z.2 := by
 simp only [ref16_Text]
 have fl : (fs.len : Int) = (sup.length : Int) := by rw [show fs.len = sup.length from R.1]
 have il : (fi.len : Int) = (its.length : Int) := by rw [S.len]
 have htl := textB_len ok c1 c2
 have a3 := leb_len 1 sup.length (by omega)
 have b3 := leb_len 1 its.length (by omega)
 have sl := supB_len ok.1
 have tl := itsB_len ok.2
 refine Wp.newE fun h1 e1 k1 n1 g1 => ?_
 have l0 : ∀ {H : AHeap}, Keeps h1 H → ldL ⟨h.next, 0, none⟩ H = some fs := fun kk => sldL_at (kk.got (by omega) g1) rfl
 have l1 : ∀ {H : AHeap}, Keeps h1 H → ldL ⟨h.next, 0 + 1, none⟩ H = some fi := fun kk => sldL_at (kk.got (by omega) g1) rfl
 refine .bnd (l0 (.refl _ _)) ?_
 rw [fl]
 refine .call (small_spec D (by omega) sup.length (by omega) h1) fun r3 ⟨q3, k3⟩ => ?_
 rw [q3]
 have eh : ((⟨#[71, 82, 84, 73, 1]⟩ : ByteArray) ++ bA (leb sup.length)) = bA (headB ++ leb sup.length) := by rw [← bA_app]; rfl
 refine .ifp (by rw [bA_size]; show 5 + _ ≤ _; omega) (Gx.Wp.jn fun j7 h7 => ?_)
 rw [eh]
 unfold ref16_Text_l1
 obtain ⟨bot, eb⟩ := iterK_of (fun _ _ _ _ => none) (ref16_Text_l1b k D j7) (show sup.length + 1 ≤ k by omega)
 rw [eb]
 have loop : ∀ (d i : Nat), i + d = sup.length → Gx.Wp (iterK bot (d + 1) (ref16_Text_l1b k D j7) (some ⟨h.next, 0, none⟩) (bA (headB ++ leb sup.length ++ supB (sup.take i))) (i : Int) r3.2) fun z => z.1 = bA (textB sup its) ∧ Keeps h z.2 := fun d => by
  induction d with
  | succ d ih =>
   intro i hd
   rw [iterK_s]; simp only [ref16_Text_l1b]
   obtain ⟨x, hx⟩ := isome (l := sup) (i := i) (by omega)
   obtain ⟨q, b1, b2⟩ := Row.ldS (R.keeps (k1.trans k3)) hx
   have hx32 := ok.1 x (mem_of hx)
   have tl2 : (supB (sup.take i)).length = 32 * (sup.take i).length := supB_len fun s hs => ok.1 s (List.mem_of_mem_take hs)
   rw [List.length_take] at tl2
   refine .bnd rfl (.bnd (show ldL ⟨h.next, 0 + 0, none⟩ r3.2 = some fs from l0 k3) (.ifp (by rw [fl]; simp; omega) (.bnd rfl (.bnd (show ldL ⟨h.next, 0 + 0, none⟩ r3.2 = some fs from l0 k3) (.bnd b1 (.bnd b2 (.ifp (by simp only [bA_size, List.length_append, hx32, headB, List.length_cons, List.length_nil]; omega) ?_)))))))
   rw [Gx.w1 (by omega)]
   have : bA (headB ++ leb sup.length ++ supB (sup.take i)) ++ x = bA (headB ++ leb sup.length ++ supB (sup.take (i + 1))) := by
    have e : supB (sup.take (i + 1)) = supB (sup.take i) ++ bl x := by rw [List.take_add_one, hx]; simp [supB]
    rw [e, ← List.append_assoc]; exact bA_app _ (bl x)
   rw [this]
   exact ih (i + 1) (by omega)
  | zero =>
   intro i hd
   rw [iterK_s]; simp only [ref16_Text_l1b]
   rw [List.take_of_length_le (by omega)]
   refine .bnd rfl (.bnd (show ldL ⟨h.next, 0 + 0, none⟩ r3.2 = some fs from l0 k3) (.ifn (by rw [fl]; simp; omega) ?_))
   rw [h7]
   refine .bnd rfl (.bnd (l1 k3) ?_)
   rw [il]
   refine .call (small_spec D (by omega) its.length (by omega) r3.2) fun r10 ⟨q10, k10⟩ => ?_
   rw [q10]
   have k310 : Keeps h1 r10.2 := k3.trans k10
   refine .ifp (by simp only [bA_size, List.length_append, sl, headB, List.length_cons, List.length_nil]; omega) (Gx.Wp.jn fun j13 h13 => ?_)
   rw [bA_app]
   unfold ref16_Text_l0
   obtain ⟨bot2, eb2⟩ := iterK_of (fun _ _ _ _ => none) (ref16_Text_l0b k D j13) (show its.length + 1 ≤ k by omega)
   rw [eb2]
   have loop2 : ∀ (d i : Nat) (H : AHeap), i + d = its.length → Keeps h1 H → Gx.Wp (iterK bot2 (d + 1) (ref16_Text_l0b k D j13) (some ⟨h.next, 0, none⟩) (bA (headB ++ leb sup.length ++ supB sup ++ leb its.length ++ itsB (its.take i))) (i : Int) H) fun z => z.1 = bA (textB sup its) ∧ Keeps h z.2 := fun d => by
    induction d with
    | succ d ih =>
     intro i H hd kp
     rw [iterK_s]; simp only [ref16_Text_l0b]
     obtain ⟨x, hx⟩ := isome (l := its) (i := i) (by omega)
     obtain ⟨q, b1, b2, _⟩ := (S.keeps (k1.trans kp)).ld itC_len (by decide) hx
     have okx := ok.2 x (mem_of hx)
     have lx := lineB_len okx
     have tl3 : (itsB (its.take i)).length ≤ 74 * (its.take i).length := itsB_len fun s hs => ok.2 s (List.mem_of_mem_take hs)
     rw [List.length_take] at tl3
     refine .bnd rfl (.bnd (l1 kp) (.ifp (by rw [il]; simp; omega) (.bnd rfl (.bnd (l1 kp) (.bnd b1 (.bnd b2 (.bnd (decI6 x) (.call (rline_spec D (by omega) okx H) fun r ⟨q1, q2⟩ => ?_))))))))
     rw [q1]
     refine .ifp (by simp only [bA_size, List.length_append, sl, headB, List.length_cons, List.length_nil]; omega) ?_
     rw [Gx.w1 (by omega), bA_app]
     have e : headB ++ leb sup.length ++ supB sup ++ leb its.length ++ itsB (its.take i) ++ lineB x = headB ++ leb sup.length ++ supB sup ++ leb its.length ++ itsB (its.take (i + 1)) := by
      have : itsB (its.take (i + 1)) = itsB (its.take i) ++ lineB x := by rw [List.take_add_one, hx]; simp [itsB]
      rw [this, ← List.append_assoc]
     rw [e]
     exact ih (i + 1) r.2 (by omega) (kp.trans q2)
    | zero =>
     intro i H hd kp
     rw [iterK_s]; simp only [ref16_Text_l0b]
     rw [List.take_of_length_le (by omega)]
     refine .bnd rfl (.bnd (l1 kp) (.ifn (by rw [il]; simp; omega) ?_))
     rw [h13]
     exact .of ⟨rfl, k1.trans kp⟩
   have := loop2 its.length 0 r10.2 (by omega) k310
   simpa [itsB] using this
 have := loop sup.length 0 (by omega)
 simpa [supB] using this
def tooB (sup : List ByteArray) (its : List It) : Prop := 4096 < sup.length ∨ 4096 < its.length ∨ 65536 < (textB sup its).length
open Classical in
noncomputable def encR (sup : List ByteArray) (its : List It) : ByteArray × Int := if chkF sup its = 0 then (if tooB sup its then (⟨#[]⟩, 2) else (bA (textB sup its), 0)) else (⟨#[]⟩, chkF sup its)
theorem chk_zero {sup : List ByteArray} {its : List It} : chkF sup its = 0 ↔ sizeOk sup its ∧ upOk sup its := by
 unfold chkF
 by_cases a : sizeOk sup its
 ·by_cases b : upOk sup its
  ·rw [if_pos a, if_pos b]; simp [a, b]
  ·rw [if_pos a, if_neg b]; simp [b]
 ·rw [if_neg a]; simp [a]
theorem encR_ok {sup : List ByteArray} {its : List It} (c : chkF sup its = 0) (t : ¬ tooB sup its) : encR sup its = (bA (textB sup its), 0) := by unfold encR; rw [if_pos c, if_neg t]
theorem encR_long {sup : List ByteArray} {its : List It} (c : chkF sup its = 0) (t : tooB sup its) : encR sup its = (⟨#[]⟩, 2) := by unfold encR; rw [if_pos c, if_pos t]
theorem encR_bad {sup : List ByteArray} {its : List It} (c : ¬ chkF sup its = 0) : encR sup its = (⟨#[]⟩, chkF sup its) := by unfold encR; rw [if_neg c]
theorem encode_spec (hk : 5000 ≤ k) (R : Row encS h fs sup) (S : RowW 6 itC h fi its) (hl : sup.length + its.length + 20 ≤ k) (hb : sup.length + its.length < 9000000000000000000) :
  Gx.Wp (index_Encode k (DD k) (fs, fi) h) fun z => z.1 = encR sup its ∧ Keeps h z.2 := by
 simp only [index_Encode]
 refine Wp.newE fun h1 e1 k1 n1 g1 => ?_
 have ld : ∀ {H : AHeap}, Keeps h1 H → ldA 2 ⟨h.next, 0, none⟩ H = some [.slice fs.a fs.len fs.cap, .slice fi.a fi.len fi.cap] := fun kk => sldA_at (kk.got (by omega) g1) rfl
 have dc : decC [.l, .l] [.slice fs.a fs.len fs.cap, .slice fi.a fi.len fi.cap] = some (fs, fi) := rfl
 refine .bnd (ld (.refl _ _)) (.bnd dc (.call (check_file (by omega) (R.keeps k1) (S.keeps k1) hl hb) fun r4 ⟨q4, k4⟩ => ?_))
 by_cases c : chkF sup its = 0
 ·have ok := (chk_zero.1 c).1
  refine .ifn (by rw [q4, c]; decide) (.bnd (ld k4) (.bnd dc (.call (text_spec _ hk (R.keeps (k1.trans k4)) (S.keeps (k1.trans k4)) ok hb) fun r7 ⟨q7, k7⟩ => ?_)))
  have kz := (k1.trans k4).trans k7
  by_cases c2 : 4096 < sup.length ∨ 4096 < its.length
  ·rw [if_pos c2] at q7
   exact .ifp (by rw [q7]; rfl) (.of ⟨(encR_long c (Or.elim c2 (fun e => Or.inl e) fun e => Or.inr (Or.inl e))).symm, kz⟩)
  ·rw [if_neg c2] at q7
   by_cases c3 : 65536 < (textB sup its).length
   ·exact .ifp (by rw [q7]; simp; omega) (.of ⟨(encR_long c (Or.inr (Or.inr c3))).symm, kz⟩)
   ·refine .ifn (by rw [q7]; simp; omega) (.of ⟨?_, kz⟩)
    rw [q7]
    refine (encR_ok c fun q => ?_).symm
    rcases q with q | q | q
    ·exact c2 (Or.inl q)
    ·exact c2 (Or.inr q)
    ·exact c3 q
 ·exact .ifp (by rw [q4]; simpa using c) (.of ⟨by rw [q4, encR_bad c], k1.trans k4⟩)
theorem rlong_spec (D : CallF) (hk : 5000 ≤ k) (R : Row encS h fs sup) (S : RowW 6 itC h fi its) (ok : sizeOk sup its) :
  Gx.Wp (ref16_long k D (fs, fi) h) fun z => (z.1 = true ↔ tooB sup its) ∧ Keeps h z.2 := by
 simp only [ref16_long]
 have fl : (fs.len : Int) = (sup.length : Int) := by rw [show fs.len = sup.length from R.1]
 have il : (fi.len : Int) = (its.length : Int) := by rw [S.len]
 refine Wp.newE fun h1 e1 k1 n1 g1 => ?_
 have l0 : ldL ⟨h.next, 0, none⟩ h1 = some fs := sldL_at g1 rfl
 have l1 : ldL ⟨h.next, 1, none⟩ h1 = some fi := sldL_at g1 rfl
 refine .bnd l0 ?_
 rw [fl]
 by_cases c1 : 4096 < sup.length
 ·exact .ifp (by simp; omega) (.of ⟨⟨fun _ => .inl c1, fun _ => rfl⟩, k1⟩)
 refine .ifn (by simp; omega) (.bnd l1 ?_)
 rw [il]
 by_cases c2 : 4096 < its.length
 ·exact .ifp (by simp; omega) (.of ⟨⟨fun _ => .inr (.inl c2), fun _ => rfl⟩, k1⟩)
 refine .ifn (by simp; omega) (.bnd (sldA_at g1 rfl) (.bnd (show decC [.l, .l] [.slice fs.a fs.len fs.cap, .slice fi.a fi.len fi.cap] = some (fs, fi) from rfl) (.call (rtext_spec D hk (R.keeps k1) (S.keeps k1) ok (by omega) (by omega)) fun r6 ⟨q6, k6⟩ => .of ⟨?_, k1.trans k6⟩)))
 rw [q6, bA_size]
 unfold tooB
 simp
 omega
theorem rencode_spec (D : CallF) (hk : 5000 ≤ k) (R : Row encS h fs sup) (S : RowW 6 itC h fi its) (hl : sup.length + its.length + 20 ≤ k) (hb : sup.length + its.length < 9000000000000000000) :
  Gx.Wp (ref16_Encode k D (fs, fi) h) fun z => z.1 = encR sup its ∧ Keeps h z.2 := by
 simp only [ref16_Encode]
 refine Wp.newE fun h1 e1 k1 n1 g1 => ?_
 have ld : ∀ {H : AHeap}, Keeps h1 H → ldA 2 ⟨h.next, 0, none⟩ H = some [.slice fs.a fs.len fs.cap, .slice fi.a fi.len fi.cap] := fun kk => sldA_at (kk.got (by omega) g1) rfl
 have dc : decC [.l, .l] [.slice fs.a fs.len fs.cap, .slice fi.a fi.len fi.cap] = some (fs, fi) := rfl
 refine .bnd (ld (.refl _ _)) (.bnd dc (.call (refused_spec D (R.keeps k1) (S.keeps k1) hl hb) fun r4 ⟨q4, k4⟩ => ?_))
 by_cases c : chkF sup its = 0
 ·have ok := (chk_zero.1 c).1
  have k14 := k1.trans k4
  refine .ifn (by rw [q4, c]; decide) (.bnd (ld k4) (.bnd dc (.call (rlong_spec D hk (R.keeps k14) (S.keeps k14) ok) fun r7 ⟨q7, k7⟩ => ?_)))
  by_cases c2 : tooB sup its
  ·exact .ifp (q7.2 c2) (.of ⟨(encR_long c c2).symm, k14.trans k7⟩)
  ·have : r7.1 = false := by cases e : r7.1; rfl; exact absurd (q7.1 e) c2
   have k17 := k14.trans k7
   refine .ifn (by rw [this]; decide) (.bnd (ld (k4.trans k7)) (.bnd dc (.call (rtext_spec D hk (R.keeps k17) (S.keeps k17) ok (Nat.le_of_not_lt fun q => c2 (.inl q)) (Nat.le_of_not_lt fun q => c2 (.inr (.inl q)))) fun r10 ⟨q10, k10⟩ => .of ⟨by rw [q10, encR_ok c c2], k17.trans k10⟩)))
 ·exact .ifp (by rw [q4]; simpa using c) (.of ⟨by rw [q4, encR_bad c], k1.trans k4⟩)
theorem works16 (hk : 5000 ≤ k) (h : AHeap) : Gx.Wp (law16_works k (DD k) h) fun z => z.1 = true ∧ Keeps h z.2 := by
 simp only [law16_works]
 refine .call (encode_spec (sup := []) (its := []) hk (Row.nil _ _ _ _) (RowW.nil _ _ _ _ _) (by simp; omega) (by decide)) fun r ⟨q, kk⟩ => ?_
 have e : encR [] [] = (bA (textB [] []), 0) := by
  unfold encR
  rw [if_pos (chk_zero.2 ⟨⟨fun s hs => (List.not_mem_nil hs).elim, fun s hs => (List.not_mem_nil hs).elim⟩, List.Pairwise.nil, List.Pairwise.nil⟩), if_neg]
  have l0 : leb 0 = [0] := leb_lt (by decide)
  rintro (q | q | q)
  ·simp at q
  ·simp at q
  ·simp [textB, headB, supB, itsB, l0] at q
 have l0 : leb 0 = [0] := leb_lt (by decide)
 rw [q, e]
 refine .ifp rfl (.of ⟨?_, kk⟩)
 show (((bA (textB [] [])).size : Int) == 7) = true
 rw [bA_size]
 simp [textB, headB, supB, itsB, l0]
end
end Gc
namespace Gc
open Go Gx
def lebQ : Nat → Bool → List UInt8 → Option (Nat × List UInt8)
 | 0, _, _ => none
 | _ + 1, _, [] => none
 | d + 1, f, c :: l => if 128 ≤ c.toNat then (lebQ d false l).map fun p => (c.toNat - 128 + 128 * p.1, p.2) else if c.toNat = 0 ∧ f = false then none else some (c.toNat, l)
theorem lebQ_leb : ∀ {d : Nat} {f : Bool} {l : List UInt8} {n : Nat} {r : List UInt8}, lebQ d f l = some (n, r) → l = leb n ++ r ∧ (f = false → 0 < n)
 | 0, _, _, _, _, h => by simp [lebQ] at h
 | _ + 1, _, [], _, _, h => by simp [lebQ] at h
 | d + 1, f, c :: l, n, r, h => by
  unfold lebQ at h
  have hc := c.toNat_lt
  split at h
  ·rename_i hge
   rw [Option.map_eq_some_iff] at h
   obtain ⟨⟨m, r2⟩, h1, h2⟩ := h
   cases h2
   obtain ⟨q1, q2⟩ := lebQ_leb h1
   have hm : 0 < m := q2 rfl
   refine ⟨?_, fun _ => by omega⟩
   rw [leb_ge (by omega), show (c.toNat - 128 + 128 * m) % 128 + 128 = c.toNat by omega, show (c.toNat - 128 + 128 * m) / 128 = m by omega, q1, UInt8.ofNat_toNat]
   rfl
  ·rename_i hlt
   split at h
   ·cases h
   ·rename_i hz
    cases h
    refine ⟨?_, fun hf => ?_⟩
    ·rw [leb_lt (by omega), UInt8.ofNat_toNat]; rfl
    ·by_cases e : c.toNat = 0
     ·exact absurd ⟨e, hf⟩ hz
     ·omega
def pS (most : Nat) (l : List UInt8) : Option (Nat × List UInt8) := (lebQ 9 true l).bind fun p => if most < p.1 then none else some p
abbrev Rd := Option (List UInt8)
def opS (most : Nat) (s : Rd) : Nat × Rd := match s.bind (pS most) with
 | some (n, l) => (n, some l)
 | none => (0, none)
def opB (n : Nat) (s : Rd) : ByteArray × Rd := match s with
 | some l => if n ≤ l.length then (bA (l.take n), some (l.drop n)) else (⟨#[]⟩, none)
 | none => (⟨#[]⟩, none)
def opF (s : Rd) : Nat × Rd := match s with
 | some (c :: l) => (c.toNat, some l)
 | _ => (0, none)
def opI (s : Rd) : It × Rd :=
 let a := opB 32 s
 let b := opB 32 a.2
 let c := opF b.2
 let d := opS 65536 c.2
 let e := opS 65536 d.2
 let f := opS 65536 e.2
 ((a.1, b.1, (c.1 : Int), (d.1 : Int), (e.1 : Int), (f.1 : Int)), f.2)
def runL {α : Type} (op : Rd → α × Rd) : Nat → Rd → List α × Rd
 | 0, s => ([], s)
 | n + 1, s => let p := op s; match p.2 with
  | none => ([], none)
  | some l => let q := runL op n (some l); (p.1 :: q.1, q.2)
def opFile (s : Rd) : (List ByteArray × List It) × Rd :=
 let a := opS 4096 s
 let b := runL (opB 32) a.1 a.2
 let c := opS 4096 b.2
 let d := runL opI c.1 c.2
 ((b.1, d.1), d.2)
open Classical in
noncomputable def decF (s : List UInt8) : Option (List ByteArray × List It) :=
 if s.length ≤ 65536 ∧ s.take 5 = headB then (if (opFile (some (s.drop 5))).2 = some [] ∧ chkF (opFile (some (s.drop 5))).1.1 (opFile (some (s.drop 5))).1.2 = 0 then some (opFile (some (s.drop 5))).1 else none) else none
theorem pS_leb {most n : Nat} {l r : List UInt8} (h : pS most l = some (n, r)) : l = leb n ++ r ∧ n ≤ most := by
 unfold pS at h
 rw [Option.bind_eq_some_iff] at h
 obtain ⟨p, h1, h2⟩ := h
 split at h2
 ·cases h2
 ·cases h2
  exact ⟨(lebQ_leb h1).1, by omega⟩
theorem opB_some {n : Nat} {l : List UInt8} (h : n ≤ l.length) : opB n (some l) = (bA (l.take n), some (l.drop n)) := by simp [opB, h]
theorem opS_inv {most : Nat} {s : Rd} {l : List UInt8} (h : (opS most s).2 = some l) : s = some (leb (opS most s).1 ++ l) ∧ (opS most s).1 ≤ most := by
 cases e : s.bind (pS most) with
 | none => simp [opS, e] at h
 | some p =>
  obtain ⟨n, r⟩ := p
  have e2 : opS most s = (n, some r) := by unfold opS; rw [e]
  rw [e2] at h ⊢
  cases h
  rw [Option.bind_eq_some_iff] at e
  obtain ⟨m, e3, e4⟩ := e
  obtain ⟨q1, q2⟩ := pS_leb e4
  exact ⟨by rw [e3, q1], q2⟩
theorem opB_inv {n : Nat} {s : Rd} {l : List UInt8} (h : (opB n s).2 = some l) : s = some (bl (opB n s).1 ++ l) ∧ (opB n s).1.size = n := by
 cases s with
 | none => simp [opB] at h
 | some m =>
  by_cases c : n ≤ m.length
  ·have e : opB n (some m) = (bA (m.take n), some (m.drop n)) := opB_some c
   rw [e] at h ⊢
   cases h
   refine ⟨?_, by rw [bA_size, List.length_take]; omega⟩
   show some m = some (m.take n ++ m.drop n)
   rw [List.take_append_drop]
  ·simp [opB, c] at h
theorem opF_inv {s : Rd} {l : List UInt8} (h : (opF s).2 = some l) : s = some (UInt8.ofNat (opF s).1 :: l) := by
 match s, h with
 | some (c :: m), h =>
  simp only [opF] at h ⊢
  cases h
  rw [UInt8.ofNat_toNat]
theorem opI_inv {s : Rd} {l : List UInt8} (h : (opI s).2 = some l) : s = some (lineB (opI s).1 ++ l) := by
 obtain ⟨a, sa, ea⟩ : ∃ a sa, opB 32 s = (a, sa) := ⟨_, _, rfl⟩
 obtain ⟨b, sb, eb⟩ : ∃ b sb, opB 32 sa = (b, sb) := ⟨_, _, rfl⟩
 obtain ⟨c, sc, ec⟩ : ∃ c sc, opF sb = (c, sc) := ⟨_, _, rfl⟩
 obtain ⟨d, sd, ed⟩ : ∃ d sd, opS 65536 sc = (d, sd) := ⟨_, _, rfl⟩
 obtain ⟨e, se, ee⟩ : ∃ e se, opS 65536 sd = (e, se) := ⟨_, _, rfl⟩
 obtain ⟨f, sf, ef⟩ : ∃ f sf, opS 65536 se = (f, sf) := ⟨_, _, rfl⟩
 have eI : opI s = ((a, b, (c : Int), (d : Int), (e : Int), (f : Int)), sf) := by
  unfold opI
  simp only [ea, eb, ec, ed, ee, ef]
 rw [eI] at h ⊢
 dsimp only at h
 subst h
 obtain ⟨g6, _⟩ := opS_inv (by rw [ef])
 rw [ef] at g6
 obtain ⟨g5, _⟩ := opS_inv (by rw [ee]; exact g6)
 rw [ee] at g5
 obtain ⟨g4, _⟩ := opS_inv (by rw [ed]; exact g5)
 rw [ed] at g4
 have g3 := opF_inv (by rw [ec]; exact g4)
 rw [ec] at g3
 obtain ⟨g2, _⟩ := opB_inv (by rw [eb]; exact g3)
 rw [eb] at g2
 obtain ⟨g1, _⟩ := opB_inv (by rw [ea]; exact g2)
 rw [ea] at g1
 rw [g1]
 unfold lineB
 simp only [Int.toNat_natCast, List.append_assoc, List.cons_append, List.nil_append]
theorem run_cons {α : Type} {op : Rd → α × Rd} {n : Nat} {s : Rd} {x : α} {m : List UInt8} (e : op s = (x, some m)) : runL op (n + 1) s = (x :: (runL op n (some m)).1, (runL op n (some m)).2) := by
 conv => lhs; unfold runL
 rw [e]
theorem run_stop {α : Type} {op : Rd → α × Rd} {n : Nat} {s : Rd} {x : α} (e : op s = (x, none)) : runL op (n + 1) s = ([], none) := by
 conv => lhs; unfold runL
 rw [e]
theorem runB_inv : ∀ {n : Nat} {s : Rd} {l : List UInt8}, (runL (opB 32) n s).2 = some l → s = some (supB (runL (opB 32) n s).1 ++ l) ∧ (runL (opB 32) n s).1.length = n
 | 0, s, l, h => ⟨h, rfl⟩
 | n + 1, s, l, h => by
  obtain ⟨x, sm, e⟩ : ∃ x sm, opB 32 s = (x, sm) := ⟨_, _, rfl⟩
  cases sm with
  | none => rw [run_stop e] at h; cases h
  | some m =>
   rw [run_cons e] at h ⊢
   obtain ⟨q1, q2⟩ := runB_inv h
   obtain ⟨g1, _⟩ := opB_inv (show (opB 32 s).2 = some m by rw [e])
   rw [e] at g1
   refine ⟨?_, by simp [q2]⟩
   have q3 := Option.some.inj q1
   rw [g1]
   simp only [supB, List.flatMap_cons, List.append_assoc]
   exact congrArg (fun z => some (bl x ++ z)) q3
theorem runI_inv : ∀ {n : Nat} {s : Rd} {l : List UInt8}, (runL opI n s).2 = some l → s = some (itsB (runL opI n s).1 ++ l) ∧ (runL opI n s).1.length = n
 | 0, s, l, h => ⟨h, rfl⟩
 | n + 1, s, l, h => by
  obtain ⟨x, sm, e⟩ : ∃ x sm, opI s = (x, sm) := ⟨_, _, rfl⟩
  cases sm with
  | none => rw [run_stop e] at h; cases h
  | some m =>
   rw [run_cons e] at h ⊢
   obtain ⟨q1, q2⟩ := runI_inv h
   have g1 := opI_inv (show (opI s).2 = some m by rw [e])
   rw [e] at g1
   refine ⟨?_, by simp [q2]⟩
   have q3 := Option.some.inj q1
   rw [g1]
   simp only [itsB, List.flatMap_cons, List.append_assoc]
   exact congrArg (fun z => some (lineB x ++ z)) q3
theorem decF_inv {s : List UInt8} {f : List ByteArray × List It} (h : decF s = some f) : s = textB f.1 f.2 ∧ chkF f.1 f.2 = 0 ∧ ¬ tooB f.1 f.2 := by
 unfold decF at h
 split at h
 ·rename_i hh
  split at h
  ·rename_i hc
   cases h
   obtain ⟨c1, c2⟩ := hc
   obtain ⟨n1, s1, e1⟩ : ∃ n s1, opS 4096 (some (s.drop 5)) = (n, s1) := ⟨_, _, rfl⟩
   obtain ⟨l1, s2, e2⟩ : ∃ l s2, runL (opB 32) n1 s1 = (l, s2) := ⟨_, _, rfl⟩
   obtain ⟨n2, s3, e3⟩ : ∃ n s3, opS 4096 s2 = (n, s3) := ⟨_, _, rfl⟩
   obtain ⟨l2, s4, e4⟩ : ∃ l s4, runL opI n2 s3 = (l, s4) := ⟨_, _, rfl⟩
   have eF : opFile (some (s.drop 5)) = ((l1, l2), s4) := by
    unfold opFile
    simp only [e1, e2, e3, e4]
   rw [eF] at c1 c2 ⊢
   dsimp only at c1 c2 ⊢
   subst c1
   obtain ⟨g4, m4⟩ := runI_inv (by rw [e4])
   rw [e4] at g4 m4
   obtain ⟨g3, m3⟩ := opS_inv (by rw [e3]; exact g4)
   rw [e3] at g3 m3
   obtain ⟨g2, m2⟩ := runB_inv (by rw [e2]; exact g3)
   rw [e2] at g2 m2
   obtain ⟨g1, m1⟩ := opS_inv (by rw [e1]; exact g2)
   rw [e1] at g1 m1
   dsimp only at m1 m2 m3 m4
   have g1' := Option.some.inj g1
   have es : s = textB l1 l2 := by
    rw [← List.take_append_drop 5 s, hh.2, g1']
    unfold textB
    rw [m2, m4]
    simp only [List.append_assoc, List.append_nil]
   refine ⟨es, c2, ?_⟩
   rintro (q | q | q)
   ·omega
   ·omega
   ·rw [← es] at q
    omega
  ·cases h
 ·cases h
end Gc
namespace Gc
open Go Gx
theorem or_low {n m i : Nat} (hn : n < 2 ^ i) (hb : n + m * 2 ^ i < 9223372036854775808) : Go.bits .or .i64 (n : Int) ((m * 2 ^ i : Nat) : Int) = ((n + m * 2 ^ i : Nat) : Int) := by
 have hw : ∀ z : Int, 0 ≤ z → z < 2 ^ 63 → IntKind.wrap .i64 z = z := fun z h0 h1 => Gx.w64 z (by omega)
 have e := (bits_nat .i64 63 (by decide) hw n (m * 2 ^ i) (by omega) (by omega)).2
 rw [e]
 congr 1
 have := Nat.two_pow_add_eq_or_of_lt hn m
 rw [Nat.or_comm, Nat.mul_comm, ← this]
 omega
theorem andNot128 : ∀ a : Fin 256, Go.bits .andNot .i64 (a.val : Int) 128 = ((a.val % 128 : Nat) : Int) := by decide +kernel
theorem p128 (i : Nat) : 128 ^ i = 2 ^ (7 * i) := by rw [Nat.pow_mul]
def PRd (H : AHeap) (rb : Nat) (st : Rd) : Prop := ∃ (s : ByteArray) (e : Int), H.get rb = some (.cells [.string s, .int .i64 e] 142 true 0) ∧ s.size ≤ 1000000 ∧ (e = 0 ↔ st.isSome = true) ∧ ∀ l, st = some l → s = bA l
section
variable {k rb : Nat} {H H' : AHeap} {st : Rd}
theorem PRd.chg {S : Nat → Prop} (P : PRd H rb st) (hr : rb < H.next) (c : Chg S H H') (hs : ¬ S rb) : PRd H' rb st := by
 obtain ⟨s, e, h1, h2⟩ := P
 exact ⟨s, e, c.got hr hs h1, h2⟩
theorem PRd.keeps (P : PRd H rb st) (hr : rb < H.next) (c : Keeps H H') : PRd H' rb st := P.chg hr c fun f => f
theorem PRd.ok {l : List UInt8} (g : H.get rb = some (.cells [.string (bA l), .int .i64 0] 142 true 0)) (hl : l.length ≤ 1000000) : PRd H rb (some l) := ⟨bA l, 0, g, hl, by simp, fun l' h => by cases h; rfl⟩
theorem PRd.bad {s : ByteArray} {e : Int} (g : H.get rb = some (.cells [.string s, .int .i64 e] 142 true 0)) (hl : s.size ≤ 1000000) (he : e ≠ 0) : PRd H rb none := ⟨s, e, g, hl, by simpa using he, fun l h => by cases h⟩
theorem nshort_spec (D : CallF) (hk : 20 ≤ k) (s : ByteArray) (h : AHeap) : ∃ r, num_short k D s h = some (r, h) ∧ (match lebQ 9 true (bl s) with
  | some (n, m) => ∃ lg : Nat, lg ≤ s.size ∧ r = ((n : Int), (lg : Int), 0) ∧ m = (bl s).drop lg
  | none => r.2.2 ≠ 0) := by
 simp only [num_short]
 obtain ⟨Y, hY⟩ : ∃ Y : Nat, Y = min 9 s.size := ⟨_, rfl⟩
 have eY : (if 9 < (s.size : Int) then 9 else (s.size : Int)) = (Y : Int) := by
  by_cases c : 9 < s.size
  ·rw [if_pos (by omega)]; omega
  ·rw [if_neg (by omega)]; omega
 rw [eY]
 have hl : (bl s).length = s.size := rfl
 suffices hh : ∀ j3, j3 = (fun (s1 : ByteArray) (h2 : AHeap) => (if (decide ((s1.size : Int) < 9)) = true then some (((0 : Int), (0 : Int), (10 : Int)), h2) else some ((0, 0, 3), h2))) → ∃ r, num_short_l0 k D j3 s 0 (Y : Int) 0 h = some (r, h) ∧ (match lebQ 9 true (bl s) with
  | some (n, m) => ∃ lg : Nat, lg ≤ s.size ∧ r = ((n : Int), (lg : Int), 0) ∧ m = (bl s).drop lg
  | none => r.2.2 ≠ 0) from hh _ rfl
 intro j3 h3
 unfold num_short_l0
 obtain ⟨bot, eb⟩ := iterK_of (fun _ _ _ _ _ => none) (num_short_l0b k D j3) (show Y + 1 ≤ k by omega)
 rw [eb]
 have loop : ∀ (d i n : Nat), i + d = Y → n < 128 ^ i → ∃ r, iterK bot (d + 1) (num_short_l0b k D j3) s (n : Int) (Y : Int) (i : Int) h = some (r, h) ∧ (match lebQ (9 - i) (decide (i = 0)) ((bl s).drop i) with
   | some (v, m) => ∃ lg : Nat, lg ≤ s.size ∧ r = (((n + v * 128 ^ i : Nat) : Int), (lg : Int), 0) ∧ m = (bl s).drop lg
   | none => r.2.2 ≠ 0) := fun d => by
  induction d with
  | zero =>
   intro i n hd hn
   obtain rfl : i = Y := by omega
   rw [iterK_s]; simp only [num_short_l0b]
   rw [if_neg (by simp), h3]
   by_cases c : s.size < 9
   ·refine ⟨(0, 0, 10), by dsimp only; rw [if_pos (by simp; omega)], ?_⟩
    obtain ⟨e, he⟩ : ∃ e, 9 - i = e + 1 := ⟨9 - i - 1, by omega⟩
    rw [List.drop_of_length_le (by omega), he]
    simp [lebQ]
   ·refine ⟨(0, 0, 3), by dsimp only; rw [if_neg (by simp; omega)], ?_⟩
    rw [show 9 - i = 0 by omega]
    simp [lebQ]
  | succ d ih =>
   intro i n hd hn
   rw [iterK_s]; simp only [num_short_l0b]
   obtain ⟨c, hc⟩ := isome (l := bl s) (i := i) (by omega)
   have hcl := c.toNat_lt
   obtain ⟨e, he⟩ : ∃ e, 9 - i = e + 1 := ⟨8 - i, by omega⟩
   have he2 : 9 - (i + 1) = e := by omega
   have e7 : IntKind.wrap .i64 (7 * (i : Int)) = ((7 * i : Nat) : Int) := by rw [Gx.w64 _ (by omega)]; omega
   have ewc : IntKind.wrap .i64 (c.toNat : Int) = (c.toNat : Int) := Gx.w64 _ (by omega)
   have hpi : 2 ^ (7 * i) ≤ 2 ^ 56 := Nat.pow_le_pow_right (by decide) (by omega)
   rw [p128] at hn
   have hm : (c.toNat % 128) * 2 ^ (7 * i) ≤ 127 * 2 ^ 56 := Nat.mul_le_mul (by omega) hpi
   have h56 : (2 : Nat) ^ 56 = 72057594037927936 := by decide
   have hsum : n + c.toNat % 128 * 2 ^ (7 * i) < 128 ^ (i + 1) := by
    rw [p128, show 7 * (i + 1) = 7 + 7 * i by omega, Nat.pow_add]
    have : c.toNat % 128 + 1 ≤ 2 ^ 7 := by omega
    have := Nat.mul_le_mul_right (2 ^ (7 * i)) this
    rw [Nat.add_mul] at this
    omega
   have et : Go.bits .or .i64 (n : Int) (IntKind.wrap .i64 ((Go.bits .andNot .i64 (IntKind.wrap .i64 (c.toNat : Int)) 128) * 2 ^ (min (IntKind.wrap .i64 (7 * (i : Int))).toNat (IntKind.bits .i64)))) = ((n + c.toNat % 128 * 2 ^ (7 * i) : Nat) : Int) := by
    rw [ewc, andNot128 ⟨c.toNat, hcl⟩, e7, Int.toNat_natCast, show min (7 * i) (IntKind.bits .i64) = 7 * i from Nat.min_eq_left (by show 7 * i ≤ 64; omega)]
    have e2 : (((c.toNat % 128 : Nat) : Int) * 2 ^ (7 * i)) = ((c.toNat % 128 * 2 ^ (7 * i) : Nat) : Int) := by rw [Int.natCast_mul, Int.natCast_pow]; rfl
    show Go.bits .or .i64 (n : Int) (IntKind.wrap .i64 (((c.toNat % 128 : Nat) : Int) * 2 ^ (7 * i))) = _
    rw [e2, Gx.w64 _ (by omega), or_low hn (by omega)]
   rw [if_pos (by simp; omega)]
   rw [show Gx.idxS s (i : Int) = some (c.toNat : Int) from idxS_of hc]
   simp only [Option.bind_some]
   rw [if_pos (by rw [e7]; omega), et, ewc, he, dropc hc]
   by_cases c1 : 128 ≤ c.toNat
   ·rw [if_pos (by simp; omega), Gx.w1 (by omega)]
    obtain ⟨r, g1, g2⟩ := ih (i + 1) (n + c.toNat % 128 * 2 ^ (7 * i)) (by omega) hsum
    refine ⟨r, g1, ?_⟩
    rw [he2] at g2
    have eq : lebQ (e + 1) (decide (i = 0)) (c :: (bl s).drop (i + 1)) = (lebQ e false ((bl s).drop (i + 1))).map fun p => (c.toNat - 128 + 128 * p.1, p.2) := by
     conv => lhs; unfold lebQ
     rw [if_pos c1]
    rw [show decide (i + 1 = 0) = false by simp] at g2
    rw [eq]
    cases hq : lebQ e false ((bl s).drop (i + 1)) with
    | none => rw [hq] at g2; exact g2
    | some p =>
     obtain ⟨v, m⟩ := p
     rw [hq] at g2
     obtain ⟨lg, k1, k2, k3⟩ := g2
     refine ⟨lg, k1, ?_, k3⟩
     rw [k2]
     have : n + c.toNat % 128 * 2 ^ (7 * i) + v * 128 ^ (i + 1) = n + (c.toNat - 128 + 128 * v) * 128 ^ i := by
      rw [← p128, show c.toNat % 128 = c.toNat - 128 by omega, Nat.pow_succ, Nat.add_mul]
      have : v * (128 ^ i * 128) = 128 * v * 128 ^ i := by rw [← Nat.mul_assoc, Nat.mul_comm _ 128, ← Nat.mul_assoc]
      omega
     rw [this]
   ·rw [if_neg (by simp; omega)]
    have e8 : c.toNat % 128 = c.toNat := Nat.mod_eq_of_lt (by omega)
    have eq : lebQ (e + 1) (decide (i = 0)) (c :: (bl s).drop (i + 1)) = if c.toNat = 0 ∧ decide (i = 0) = false then none else some (c.toNat, (bl s).drop (i + 1)) := by
     conv => lhs; unfold lebQ
     rw [if_neg c1]
    rw [eq, e8]
    by_cases c2 : c.toNat = 0
    ·by_cases c3 : i = 0
     ·rw [if_neg (fun q => by simp [c3] at q)]
      refine ⟨(((n + c.toNat * 2 ^ (7 * i) : Nat) : Int), ((i + 1 : Nat) : Int), 0), ?_, i + 1, by omega, by rw [p128], rfl⟩
      show (if ((c.toNat : Int) == 0) = true then _ else _) = _
      rw [if_pos (by simp [c2])]
      show (if decide ((i : Int) > 0) = true then _ else _) = _
      rw [if_neg (by simp [c3]), Gx.w1 (by omega)]
     ·rw [if_pos ⟨c2, by simp [c3]⟩]
      refine ⟨(0, 0, 3), ?_, by simp⟩
      show (if ((c.toNat : Int) == 0) = true then _ else _) = _
      rw [if_pos (by simp [c2])]
      show (if decide ((i : Int) > 0) = true then _ else _) = _
      rw [if_pos (by simp; omega)]
    ·rw [if_neg (fun q => c2 q.1)]
     refine ⟨(((n + c.toNat * 2 ^ (7 * i) : Nat) : Int), ((i + 1 : Nat) : Int), 0), ?_, i + 1, by omega, by rw [p128], rfl⟩
     show (if ((c.toNat : Int) == 0) = true then _ else _) = _
     rw [if_neg (by simp; omega)]
     show (if false = true then _ else _) = _
     rw [if_neg (by decide), Gx.w1 (by omega)]
 obtain ⟨r, g1, g2⟩ := loop Y 0 0 (by omega) (by decide)
 refine ⟨r, g1, ?_⟩
 rw [List.drop_zero] at g2
 simpa using g2
theorem fail_spec (D : CallF) (e : Int) {s : ByteArray} {e0 : Int} (g : H.get rb = some (.cells [.string s, .int .i64 e0] 142 true 0)) :
  Gx.Wp (num_Reader_Fail k D (some ⟨rb, 0, none⟩) e H) fun z => z.2.get rb = some (.cells [.string s, .int .i64 (if e0 = 0 then e else e0)] 142 true 0) ∧ Chg (· = rb) H z.2 := by
 simp only [num_Reader_Fail]
 refine .bnd rfl (.bnd (sldI_at (o := 0 + 1) g rfl) ?_)
 by_cases c : e0 = 0
 ·refine .ifp (by simp [c]) (.bnd rfl (.bnd (st1_of (o := 0 + 1) g (by simp) rfl) (.of ⟨?_, Chg.set (.inr rfl)⟩)))
  rw [sset_get, if_pos c]; rfl
 ·refine .ifn (by simp [c]) (.of ⟨by rw [if_neg c]; exact g, .refl _ _⟩)
theorem rshort_spec (D : CallF) (hk : 20 ≤ k) (P : PRd H rb st) (most : Nat) :
  Gx.Wp (num_Reader_Short k D (some ⟨rb, 0, none⟩) (most : Int) H) fun z => z.1 = ((opS most st).1 : Int) ∧ PRd z.2 rb (opS most st).2 ∧ Chg (· = rb) H z.2 := by
 simp only [num_Reader_Short]
 obtain ⟨s, e, g, hsz, he, hl⟩ := P
 obtain ⟨r, r1, r2⟩ := nshort_spec D hk s H
 refine .bnd rfl (.bnd (show ldS ⟨rb, 0 + 0, none⟩ H = some s by simp [ldS, AHeap.rd1, g, decS]) (.bnd r1 (Gx.Wp.jn fun j9 h9 => Gx.Wp.jn fun j24 h24 => ?_)))
 have bad : ∀ (n lg e2 : Int), (e2 ≠ 0 ∨ e ≠ 0) → (opS most st) = (0, none) → Gx.Wp (j9 (some ⟨rb, 0, none⟩) n lg e2 H) fun z => z.1 = ((opS most st).1 : Int) ∧ PRd z.2 rb (opS most st).2 ∧ Chg (· = rb) H z.2 := fun n lg e2 hne ho => by
  rw [h9, ho]
  refine .call (fail_spec D e2 g) fun z ⟨z1, z2⟩ => .bnd rfl (.bnd (sldI_at (o := 0 + 1) z1 rfl) ?_)
  have hne2 : (if e = 0 then e2 else e) ≠ 0 := by
   by_cases c : e = 0
   ·rw [if_pos c]; exact hne.resolve_right (fun q => q c)
   ·rw [if_neg c]; exact c
  exact .ifp (by simpa using hne2) (.of ⟨rfl, PRd.bad z1 hsz hne2, z2⟩)
 cases st with
 | none =>
  have hne : e ≠ 0 := fun q => by simpa using he.1 q
  have ho : opS most none = (0, none) := rfl
  by_cases c : r.2.2 = 0
  ·refine .ifp (by simpa using c) ?_
   rw [h24]
   by_cases c2 : r.1 > (most : Int)
   ·exact .ifp (by simpa using c2) (bad _ _ _ (.inr hne) ho)
   ·exact .ifn (by simpa using c2) (bad _ _ _ (.inr hne) ho)
  ·refine .ifn (by simpa using c) ?_
   rw [h24]
   exact .ifn (by decide) (bad _ _ _ (.inr hne) ho)
 | some l =>
  have e0 : e = 0 := he.2 rfl
  have es : s = bA l := hl l rfl
  have ebl : bl s = l := by rw [es]; rfl
  rw [ebl] at r2
  cases hq : lebQ 9 true l with
  | none =>
   rw [hq] at r2
   have ho : opS most (some l) = (0, none) := by simp [opS, pS, hq]
   refine .ifn (by simpa using r2) ?_
   rw [h24]
   exact .ifn (by decide) (bad _ _ _ (.inl r2) ho)
  | some p =>
   obtain ⟨n, m⟩ := p
   rw [hq] at r2
   obtain ⟨lg, q1, q2, q3⟩ := r2
   rw [q2]
   refine .ifp rfl ?_
   rw [h24]
   by_cases c2 : most < n
   ·have ho : opS most (some l) = (0, none) := by simp [opS, pS, hq, c2]
    exact .ifp (by simp; omega) (bad _ _ _ (.inl (by decide)) ho)
   ·have ho : opS most (some l) = (n, some m) := by simp [opS, pS, hq, c2]
    refine .ifn (by simp; omega) ?_
    rw [h9, ho]
    refine .call (fail_spec D 0 g) fun z ⟨z1, z2⟩ => .bnd rfl (.bnd (sldI_at (o := 0 + 1) z1 rfl) (.ifn (by simp [e0]) (.bnd rfl (.bnd (show ldS ⟨rb, 0 + 0, none⟩ z.2 = some s by simp [ldS, AHeap.rd1, z1, decS]) ?_))))
    have esub : Gx.subS s (some (lg : Int)) none = some (bA m) := by
     have := subS_of (s := s) (lo := some (lg : Int)) (hi := none) (i := lg) (j := s.size) rfl rfl q1 (Nat.le_refl _)
     rw [this, ebl, q3, List.take_of_length_le (by rw [← ebl]; exact Nat.le_refl _)]
     rfl
    refine .bnd esub (.bnd rfl (.bnd (st1_of (o := 0 + 0) z1 (by simp) rfl) (.of ⟨rfl, PRd.ok ?_ ?_, Chg.trans z2 (Chg.set (.inr rfl))⟩)))
    ·rw [sset_get, e0]; rfl
    ·have : m.length ≤ s.size := by rw [q3, List.length_drop, ← ebl]; exact Nat.sub_le _ _
     omega
theorem left_spec (D : CallF) {s : ByteArray} {e : Int} (g : H.get rb = some (.cells [.string s, .int .i64 e] 142 true 0)) : num_Reader_Left k D (some ⟨rb, 0, none⟩) H = some ((s.size : Int), H) := by
 simp only [num_Reader_Left]
 exact bnd rfl (bnd (show ldS ⟨rb, 0 + 0, none⟩ H = some s by simp [ldS, AHeap.rd1, g, decS]) rfl)
theorem err_spec (D : CallF) {s : ByteArray} {e : Int} (g : H.get rb = some (.cells [.string s, .int .i64 e] 142 true 0)) : num_Reader_Err k D (some ⟨rb, 0, none⟩) H = some (e, H) := by
 simp only [num_Reader_Err]
 exact bnd rfl (bnd (sldI_at (o := 0 + 1) g rfl) rfl)
theorem rbytes_spec (D : CallF) (P : PRd H rb st) (n : Nat) :
  Gx.Wp (num_Reader_Bytes k D (some ⟨rb, 0, none⟩) (n : Int) H) fun z => z.1 = (opB n st).1 ∧ PRd z.2 rb (opB n st).2 ∧ Chg (· = rb) H z.2 := by
 obtain ⟨s, e, g, hsz, he, hl⟩ := P
 simp only [num_Reader_Bytes]
 refine Gx.Wp.jn fun j4 h4 => .ifn (by simp) (.bnd (left_spec D g) ?_)
 have lds : ∀ {H : AHeap} {s : ByteArray} {e : Int}, H.get rb = some (.cells [.string s, .int .i64 e] 142 true 0) → ldS ⟨rb, 0 + 0, none⟩ H = some s := fun g => by simp [ldS, AHeap.rd1, g, decS]
 by_cases c : s.size < n
 ·have ho : opB n st = (⟨#[]⟩, none) := by
   cases st with
   | none => rfl
   | some l =>
    have es : s = bA l := hl l rfl
    have : ¬ n ≤ l.length := by rw [es, bA_size] at c; omega
    simp [opB, this]
  rw [ho]
  refine .ifp (by simp; omega) (.call (fail_spec D 10 g) fun z ⟨z1, z2⟩ => ?_)
  rw [h4]
  have hne2 : (if e = 0 then (10 : Int) else e) ≠ 0 := by
   by_cases c : e = 0
   ·rw [if_pos c]; decide
   ·rw [if_neg c]; exact c
  exact .bnd rfl (.bnd (sldI_at (o := 0 + 1) z1 rfl) (.ifp (by simpa using hne2) (.of ⟨rfl, PRd.bad z1 hsz hne2, z2⟩)))
 ·refine .ifn (by simp; omega) ?_
  rw [h4]
  refine .bnd rfl (.bnd (sldI_at (o := 0 + 1) g rfl) ?_)
  cases st with
  | none =>
   have hne : e ≠ 0 := fun q => by simpa using he.1 q
   exact .ifp (by simpa using hne) (.of ⟨rfl, PRd.bad g hsz hne, .refl _ _⟩)
  | some l =>
   have e0 : e = 0 := he.2 rfl
   have es : s = bA l := hl l rfl
   have ebl : bl s = l := by rw [es]; rfl
   have hle : n ≤ l.length := by rw [es, bA_size] at c; omega
   have hll : l.length = s.size := by rw [es, bA_size]
   rw [opB_some hle]
   have s1 := subS_of (s := s) (lo := none) (hi := some (n : Int)) (i := 0) (j := n) rfl rfl (Nat.zero_le _) (by omega)
   have s2 := subS_of (s := s) (lo := some (n : Int)) (hi := none) (i := n) (j := s.size) rfl rfl (by omega) (Nat.le_refl _)
   rw [ebl, List.drop_zero] at s1
   rw [ebl, List.take_of_length_le (by omega)] at s2
   refine .ifn (by simp [e0]) (.bnd rfl (.bnd (lds g) (.bnd s1 (.bnd rfl (.bnd (lds g) (.bnd s2 (.bnd rfl (.bnd (st1_of (o := 0 + 0) g (by simp) rfl) (.of ⟨rfl, PRd.ok ?_ ?_, Chg.set (.inr rfl)⟩)))))))))
   ·rw [sset_get, e0]; rfl
   ·rw [List.length_drop]; omega
theorem rfixed_spec (D : CallF) (hk : 20 ≤ k) (hr : rb < H.next) (P : PRd H rb st) :
  Gx.Wp (num_Reader_Fixed k D (some ⟨rb, 0, none⟩) 1 H) fun z => z.1 = ((opF st).1 : Int) ∧ PRd z.2 rb (opF st).2 ∧ Chg (· = rb) H z.2 := by
 simp only [num_Reader_Fixed]
 refine Gx.Wp.jn fun j4 h4 => Gx.Wp.jn fun j23 h23 => .ifn (by decide) ?_
 rw [h23]
 refine .ifn (by decide) ?_
 rw [h4]
 refine Gx.Wp.jn fun j7 h7 => .call (rbytes_spec D P 1) fun r ⟨q1, q2, q3⟩ => ?_
 have nx := q3.nx
 rw [q1]
 obtain ⟨x, hx⟩ : ∃ x, x = (opB 1 st).1 := ⟨_, rfl⟩
 rw [← hx]
 obtain ⟨h9, e9⟩ : ∃ h9, h9 = AHeap.new r.2 (.cells (bytesL x) 5 true 18446744073709551616) := ⟨_, rfl⟩
 rw [← e9]
 have k9 : Keeps r.2 h9 := by rw [e9]; exact Keeps.new _ _
 have g9 : h9.get r.2.next = some (.cells (bytesL x) 5 true 18446744073709551616) := by rw [e9]; simp
 have P9 := q2.keeps (by omega) k9
 have c9 : Chg (· = rb) H h9 := Chg.trans q3 (Chg.keeps k9)
 unfold num_Reader_Fixed_l0
 have ho : (x = ⟨#[]⟩ ∧ opF st = (0, none) ∧ (opB 1 st).2 = none) ∨ ∃ c l, x = bA [c] ∧ opF st = (c.toNat, some l) ∧ (opB 1 st).2 = some l := by
  cases st with
  | none => exact .inl ⟨by rw [hx]; rfl, rfl, rfl⟩
  | some l =>
   cases l with
   | nil => exact .inl ⟨by rw [hx]; simp [opB], rfl, by simp [opB]⟩
   | cons c l => exact .inr ⟨c, l, by rw [hx, opB_some (by simp)]; rfl, rfl, by rw [opB_some (by simp)]; rfl⟩
 rcases ho with ⟨e1, e2, e3⟩ | ⟨c, l, e1, e2, e3⟩
 ·rw [e2, ← e3]
  obtain ⟨bot, eb⟩ := iterK_of (fun _ _ _ _ _ => none) (num_Reader_Fixed_l0b k D j7) (show 0 + 1 ≤ k by omega)
  rw [eb, iterK_s]; simp only [num_Reader_Fixed_l0b]
  refine .ifn (by rw [e1]; decide) ?_
  rw [h7]
  exact .of ⟨rfl, P9, c9⟩
 ·rw [e2, ← e3]
  obtain ⟨bot, eb⟩ := iterK_of (fun _ _ _ _ _ => none) (num_Reader_Fixed_l0b k D j7) (show 1 + 1 ≤ k by omega)
  have esz : x.size = 1 := by rw [e1]; rfl
  have hc := c.toNat_lt
  rw [eb, iterK_s]; simp only [num_Reader_Fixed_l0b]
  rw [esz]
  have ei : Gx.idxL 1 ⟨some ⟨r.2.next, 0, some 2⟩, 1, 1⟩ 0 = some ⟨r.2.next, 0, none⟩ := rfl
  have g9' : h9.get r.2.next = some (.cells [.int .u8 (c.toNat : Int)] 5 true 18446744073709551616) := by rw [g9, e1]; rfl
  refine .ifp (by decide) (.bnd ei (.bnd (sldI_at g9' rfl) ?_))
  have eo : Go.bits .or .i64 (IntKind.wrap .i64 (0 * 256)) (IntKind.wrap .i64 (c.toNat : Int)) = (c.toNat : Int) := by
   rw [Gx.w64 (0 * 256) (by decide), Gx.w64 _ (by omega)]
   have hw : ∀ z : Int, 0 ≤ z → z < 2 ^ 63 → IntKind.wrap .i64 z = z := fun z h0 h1 => Gx.w64 z (by omega)
   have := (bits_nat .i64 63 (by decide) hw 0 c.toNat (by decide) (by omega)).2
   simpa using this
  rw [eo, show IntKind.wrap .i64 (0 + 1) = 1 from rfl, iterK_s]
  simp only [num_Reader_Fixed_l0b]
  refine .ifn (by decide) ?_
  rw [h7]
  exact .of ⟨rfl, P9, c9⟩
theorem rend_spec (D : CallF) (P : PRd H rb st) : Gx.Wp (num_Reader_End k D (some ⟨rb, 0, none⟩) H) fun z => (z.1 = 0 ↔ st = some []) ∧ Chg (· = rb) H z.2 := by
 obtain ⟨s, e, g, hsz, he, hl⟩ := P
 simp only [num_Reader_End]
 refine Gx.Wp.jn fun j3 h3 => .bnd (left_spec D g) ?_
 by_cases c : 0 < s.size
 ·refine .ifp (by simpa using c) (.call (fail_spec D 3 g) fun z ⟨z1, z2⟩ => ?_)
  rw [h3]
  refine .bnd rfl (.bnd (sldI_at (o := 0 + 1) z1 rfl) (.of ⟨⟨fun q => ?_, fun q => ?_⟩, z2⟩))
  ·dsimp only at q
   by_cases c : e = 0
   ·rw [if_pos c] at q; cases q
   ·rw [if_neg c] at q; exact absurd q c
  ·have := hl [] q
   rw [this] at c; exact absurd c (by decide)
 ·refine .ifn (by simpa using c) ?_
  rw [h3]
  refine .bnd rfl (.bnd (sldI_at (o := 0 + 1) g rfl) (.of ⟨⟨fun q => ?_, fun q => ?_⟩, .refl _ _⟩))
  ·cases st with
   | none => simpa using he.1 q
   | some l =>
    have es := hl l rfl
    rw [es, bA_size] at c
    have : l = [] := List.length_eq_zero_iff.1 (by omega)
    rw [this]
  ·exact he.2 (by rw [q]; rfl)
end
end Gc
namespace Gc
open Go Gx
section
variable {k rb : Nat} {h H H' : AHeap} {st : Rd}
theorem chgB {rb b : Nat} {h H H' : AHeap} (a : Chg (· = rb) h H) (c : Chg (· = b) H H') (hb : h.next ≤ b) : Chg (· = rb) h H' := Chg.beh a c fun y hy e => by omega
theorem item_spec16 (D : CallF) (hk : 20 ≤ k) (hr : rb < h.next) (P : PRd h rb st) : Gx.Wp (index_item k D (some ⟨rb, 0, none⟩) h) fun z => z.1 = (opI st).1 ∧ PRd z.2 rb (opI st).2 ∧ Chg (· = rb) h z.2 := by
 simp only [index_item]
 obtain ⟨a, sa, ea⟩ : ∃ a sa, opB 32 st = (a, sa) := ⟨_, _, rfl⟩
 obtain ⟨b, sb, eb⟩ : ∃ b sb, opB 32 sa = (b, sb) := ⟨_, _, rfl⟩
 obtain ⟨c, sc, ec⟩ : ∃ c sc, opF sb = (c, sc) := ⟨_, _, rfl⟩
 obtain ⟨d, sd, ed⟩ : ∃ d sd, opS 65536 sc = (d, sd) := ⟨_, _, rfl⟩
 obtain ⟨e, se, ee⟩ : ∃ e se, opS 65536 sd = (e, se) := ⟨_, _, rfl⟩
 obtain ⟨f, sf, ef⟩ : ∃ f sf, opS 65536 se = (f, sf) := ⟨_, _, rfl⟩
 have eI : opI st = ((a, b, (c : Int), (d : Int), (e : Int), (f : Int)), sf) := by
  unfold opI
  simp only [ea, eb, ec, ed, ee, ef]
 rw [eI]
 refine Wp.newE fun h1 e1 k1 n1 g1 => .call (rbytes_spec D (P.keeps hr k1) 32) fun r2 ⟨q2, P2, c2⟩ => ?_
 rw [ea] at q2 P2
 rw [q2]
 have n2 := c2.nx
 have c02 : Chg (· = rb) h r2.2 := Chg.trans (Chg.keeps k1) c2
 have g2 := c2.got (by omega) (by omega) g1
 refine Wp.newE fun h3 e3 k3 n3 g3 => Wp.stL g3 rfl rfl rfl (by decide) fun h4 c4 n4 g4 => ?_
 have k4 : Keeps r2.2 h4 := k3.keepsS c4 fun y hy => by subst hy; omega
 have P4 := P2.keeps (by omega) k4
 have c04 : Chg (· = rb) h h4 := Chg.trans c02 (Chg.keeps k4)
 have g24 := k4.got (by omega) g2
 refine .call (rbytes_spec D P4 32) fun r5 ⟨q5, P5, c5⟩ => ?_
 rw [eb] at q5 P5
 rw [q5]
 have n5 := c5.nx
 have gx5 := c5.got (by omega) (by omega) g4
 have g25 := c5.got (by omega) (by omega) g24
 have c05 : Chg (· = rb) h r5.2 := Chg.trans c04 c5
 refine Wp.st gx5 (by simp) rfl fun h6 c6 n6 g6 => ?_
 have P6 := P5.chg (by omega) c6 (by omega)
 have g26 := c6.got (by omega) (by omega) g25
 have c06 := chgB c05 c6 (by omega)
 refine .call (rfixed_spec D hk (by omega) P6) fun r7 ⟨q7, P7, c7⟩ => ?_
 rw [ec] at q7 P7
 rw [q7]
 have n7 := c7.nx
 have gx7 := c7.got (by omega) (by omega) g6
 have g27 := c7.got (by omega) (by omega) g26
 have c07 : Chg (· = rb) h r7.2 := Chg.trans c06 c7
 refine Wp.st gx7 (by simp) rfl fun h8 c8 n8 g8 => ?_
 have P8 := P7.chg (by omega) c8 (by omega)
 have g28 := c8.got (by omega) (by omega) g27
 have c08 := chgB c07 c8 (by omega)
 refine .call (rshort_spec D hk P8 65536) fun r9 ⟨q9, P9, c9⟩ => ?_
 rw [ed] at q9 P9
 rw [q9]
 have n9 := c9.nx
 have gx9 := c9.got (by omega) (by omega) g8
 have g29 := c9.got (by omega) (by omega) g28
 have c09 : Chg (· = rb) h r9.2 := Chg.trans c08 c9
 refine Wp.st gx9 (by simp) rfl fun h10 c10 n10 g10 => ?_
 have P10 := P9.chg (by omega) c10 (by omega)
 have g210 := c10.got (by omega) (by omega) g29
 have c010 := chgB c09 c10 (by omega)
 refine .call (rshort_spec D hk P10 65536) fun r11 ⟨q11, P11, c11⟩ => ?_
 rw [ee] at q11 P11
 rw [q11]
 have n11 := c11.nx
 have gx11 := c11.got (by omega) (by omega) g10
 have g211 := c11.got (by omega) (by omega) g210
 have c011 : Chg (· = rb) h r11.2 := Chg.trans c010 c11
 refine Wp.st gx11 (by simp) rfl fun h12 c12 n12 g12 => ?_
 have P12 := P11.chg (by omega) c12 (by omega)
 have g212 := c12.got (by omega) (by omega) g211
 have c012 := chgB c011 c12 (by omega)
 refine .call (rshort_spec D hk P12 65536) fun r13 ⟨q13, P13, c13⟩ => ?_
 rw [ef] at q13 P13
 rw [q13]
 have n13 := c13.nx
 have gx13 := c13.got (by omega) (by omega) g12
 have g213 := c13.got (by omega) (by omega) g212
 have c013 : Chg (· = rb) h r13.2 := Chg.trans c012 c13
 refine Wp.st gx13 (by simp) rfl fun h14 c14 n14 g14 => ?_
 have P14 := P13.chg (by omega) c14 (by omega)
 have g214 := c14.got (by omega) (by omega) g213
 have c014 := chgB c013 c14 (by omega)
 have gz : h14.get r2.2.next = some (.cells (itC (a, b, (c : Int), (d : Int), (e : Int), (f : Int))) 57 true 0) := g14
 refine .bnd (sldA_at gz rfl) (.bnd (decI6 _) (Wp.stL g214 rfl rfl rfl (by decide) fun h17 c17 n17 g17 => .bnd (sldA_at (c := itC (a, b, (c : Int), (d : Int), (e : Int), (f : Int))) g17 rfl) (.bnd (decI6 _) (.of ⟨rfl, P14.chg (by omega) c17 (by omega), chgB c014 c17 (by omega)⟩))))
theorem dd_bytes {R : Type} {Q : R → Prop} (P : PRd h rb st) {κ : Value → AHeap → Option R} {C : CallF} (hC : C R 56 = DD k R 56) (kt : ∀ h', PRd h' rb (opB 32 st).2 → Chg (· = rb) h h' → Gx.Wp (κ (.string (opB 32 st).1) h') Q) :
  Gx.Wp (callD C (.func (.func 56) ⟨[]⟩ ⟨[]⟩) [.pointer (some ⟨rb, 0, none⟩)] h κ) Q := by
 have e : callD C (.func (.func 56) ⟨[]⟩ ⟨[]⟩) [.pointer (some ⟨rb, 0, none⟩)] h κ = C R 56 [.pointer (some ⟨rb, 0, none⟩)] h κ := rfl
 rw [e, hC]
 show Gx.Wp ((index_Decode_1 k noC (some ⟨rb, 0, none⟩) h).bind fun r => κ (.string r.1) r.2) Q
 simp only [index_Decode_1]
 refine .call (P := fun r => r.1 = (opB 32 st).1 ∧ PRd r.2 rb (opB 32 st).2 ∧ Chg (· = rb) h r.2) (.call (rbytes_spec noC P 32) fun r q => .of q) fun r ⟨q1, q2, q3⟩ => ?_
 rw [q1]; exact kt r.2 q2 q3
theorem dd_item {R : Type} {Q : R → Prop} (hk : 20 ≤ k) (hr : rb < h.next) (P : PRd h rb st) {κ : Value → AHeap → Option R} {C : CallF} (hC : C R 59 = DD k R 59) (kt : ∀ h', PRd h' rb (opI st).2 → Chg (· = rb) h h' → Gx.Wp (κ (.agg ⟨itC (opI st).1⟩) h') Q) :
  Gx.Wp (callD C (.func (.func 59) ⟨[]⟩ ⟨[]⟩) [.pointer (some ⟨rb, 0, none⟩)] h κ) Q := by
 have e : callD C (.func (.func 59) ⟨[]⟩ ⟨[]⟩) [.pointer (some ⟨rb, 0, none⟩)] h κ = C R 59 [.pointer (some ⟨rb, 0, none⟩)] h κ := rfl
 rw [e, hC]
 show Gx.Wp ((index_item k noC (some ⟨rb, 0, none⟩) h).bind fun r => κ (.agg ⟨itC r.1⟩) r.2) Q
 refine .call (item_spec16 noC hk hr P) fun r ⟨q1, q2, q3⟩ => ?_
 rw [q1]; exact kt r.2 q2 q3
theorem listS_spec (hk : 5000 ≤ k) (hr : rb < h.next) (P : PRd h rb st) :
  Gx.Wp (index_list_string k (DD k) (some ⟨rb, 0, none⟩) (.func (.func 56) ⟨[]⟩ ⟨[]⟩) h) fun z => PRd z.2 rb (runL (opB 32) (opS 4096 st).1 (opS 4096 st).2).2 ∧ ((runL (opB 32) (opS 4096 st).1 (opS 4096 st).2).2 ≠ none → Acc encS 9 h.next z.2 z.1 (runL (opB 32) (opS 4096 st).1 (opS 4096 st).2).1) ∧ Chg (· = rb) h z.2 := by
 simp only [index_list_string]
 refine Gx.Wp.jn fun j3 h3 => .call (rshort_spec (DD k) (by omega) P 4096) fun r4 ⟨q4, P4, c4⟩ => ?_
 obtain ⟨n, st1, e1⟩ : ∃ n s, opS 4096 st = (n, s) := ⟨_, _, rfl⟩
 rw [e1] at q4 P4 ⊢
 dsimp only at q4 P4 ⊢
 rw [q4]
 have hn : n ≤ 4096 := by
  have : n = (opS 4096 st).1 := by rw [e1]
  rw [this]
  cases hs : (opS 4096 st).2 with
  | none => 
   have : opS 4096 st = (0, none) := by
    unfold opS at hs ⊢
    cases e : st.bind (pS 4096) with
    | none => rfl
    | some p => rw [e] at hs; cases hs
   rw [this]; decide
  | some l => exact (opS_inv hs).2
 have n4 := c4.nx
 unfold index_list_string_l0
 cases st1 with
 | none =>
  have hz : n = 0 := by
   have : opS 4096 st = (n, none) := e1
   unfold opS at this
   cases e : st.bind (pS 4096) with
   | none => rw [e] at this; cases this; rfl
   | some p => rw [e] at this; cases this
  subst hz
  obtain ⟨bot, eb⟩ := iterK_of (fun _ _ _ _ _ _ => none) (index_list_string_l0b k (DD k) j3) (show 0 + 1 ≤ k by omega)
  rw [eb, iterK_s]; simp only [index_list_string_l0b]
  refine .ifn (by decide) ?_
  rw [h3]
  exact .of ⟨P4, fun q => absurd rfl q, c4⟩
 | some l =>
  obtain ⟨bot, eb⟩ := iterK_of (fun _ _ _ _ _ _ => none) (index_list_string_l0b k (DD k) j3) (show n + 1 ≤ k by omega)
  rw [eb]
  have loop : ∀ (d i : Nat) (o : Slc) (H : AHeap) (xs : List ByteArray) (l : List UInt8), i + d = n → xs.length = i → PRd H rb (some l) → Chg (· = rb) h H → Acc encS 9 h.next H o xs → Gx.Wp (iterK bot (d + 1) (index_list_string_l0b k (DD k) j3) (some ⟨rb, 0, none⟩) (.func (.func 56) ⟨[]⟩ ⟨[]⟩) o (n : Int) (i : Int) H) fun z => PRd z.2 rb (runL (opB 32) d (some l)).2 ∧ ((runL (opB 32) d (some l)).2 ≠ none → Acc encS 9 h.next z.2 z.1 (xs ++ (runL (opB 32) d (some l)).1)) ∧ Chg (· = rb) h z.2 := fun d => by
   induction d with
   | zero =>
    intro i o H xs l hd hx P c A
    rw [iterK_s]; simp only [index_list_string_l0b]
    refine .ifn (by simp; omega) ?_
    rw [h3]
    refine .of ⟨P, fun _ => ?_, c⟩
    show Acc encS 9 h.next H o (xs ++ [])
    rw [List.append_nil]; exact A
   | succ d ih =>
    intro i o H xs l hd hx P c A
    rw [iterK_s]; simp only [index_list_string_l0b]
    have nx := c.nx
    refine .ifp (by simp; omega) (dd_bytes (k := k) P rfl fun h' P' c' => .bnd rfl ?_)
    obtain ⟨x, s2, e2⟩ : ∃ x s2, opB 32 (some l) = (x, s2) := ⟨_, _, rfl⟩
    rw [e2] at P' ⊢
    dsimp only at P' ⊢
    obtain ⟨s, e, g, hsz, he, hl⟩ := P'
    have nx' := c'.nx
    refine .bnd (err_spec (DD k) g) ?_
    have A' := A.chg c' fun a ha q => by have := (A.lt a ha).2; omega
    have c2 : Chg (· = rb) h h' := Chg.trans c c'
    cases s2 with
    | none =>
     have hne : e ≠ 0 := fun q => by simpa using he.1 q
     rw [run_stop e2]
     exact .ifp (by simpa using hne) (.of ⟨PRd.bad g hsz hne, fun q => absurd rfl q, c2⟩)
    | some m =>
     have e0 : e = 0 := he.2 rfl
     have es : s = bA m := hl m rfl
     rw [run_cons e2]
     refine .ifn (by simp [e0]) (Wp.newE fun h3 e3 k3 n3 g3 => ?_)
     obtain ⟨s', h9, a1, a2, A9, c9, d9⟩ := Acc.pushK A' (fun _ => rfl) x (bytes := 16) e3 (by omega) (by decide) (by omega)
     refine .bnd a1 (.bnd a2 ?_)
     rw [Gx.w1 (by omega)]
     have hc9 : ∀ y, ofS o y → h.next ≤ y := fun y ⟨a, ha, e⟩ => by rw [e]; exact (A'.lt a ha).2
     have g' : h9.get rb = some (.cells [.string (bA m), .int .i64 0] 142 true 0) := by
      have := c9.got (by omega) (fun q => by have := hc9 _ q; omega) g
      rw [this, es, e0]
     have := ih (i + 1) s' h9 (xs ++ [x]) m (by omega) (by simp [hx]) (PRd.ok g' (by rw [← bA_size, ← es]; exact hsz)) (Chg.beh c2 c9 fun y hy q => by have := hc9 y q; omega) A9
     simp only [List.append_assoc, List.singleton_append] at this
     exact this
  have := loop n 0 ⟨none, 0, 0⟩ r4.2 [] l (by omega) rfl P4 c4 (Acc.nil _ _ _ _)
  simpa using this
theorem listI_spec (hk : 5000 ≤ k) (hr : rb < h.next) (P : PRd h rb st) :
  Gx.Wp (index_list_api_Item k (DD k) (some ⟨rb, 0, none⟩) (.func (.func 59) ⟨[]⟩ ⟨[]⟩) h) fun z => PRd z.2 rb (runL opI (opS 4096 st).1 (opS 4096 st).2).2 ∧ ((runL opI (opS 4096 st).1 (opS 4096 st).2).2 ≠ none → AccW 6 itC 57 h.next z.2 z.1 (runL opI (opS 4096 st).1 (opS 4096 st).2).1) ∧ Chg (· = rb) h z.2 := by
 simp only [index_list_api_Item]
 refine Gx.Wp.jn fun j3 h3 => .call (rshort_spec (DD k) (by omega) P 4096) fun r4 ⟨q4, P4, c4⟩ => ?_
 obtain ⟨n, st1, e1⟩ : ∃ n s, opS 4096 st = (n, s) := ⟨_, _, rfl⟩
 rw [e1] at q4 P4 ⊢
 dsimp only at q4 P4 ⊢
 rw [q4]
 have hn : n ≤ 4096 := by
  have : n = (opS 4096 st).1 := by rw [e1]
  rw [this]
  cases hs : (opS 4096 st).2 with
  | none => 
   have : opS 4096 st = (0, none) := by
    unfold opS at hs ⊢
    cases e : st.bind (pS 4096) with
    | none => rfl
    | some p => rw [e] at hs; cases hs
   rw [this]; decide
  | some l => exact (opS_inv hs).2
 have n4 := c4.nx
 unfold index_list_api_Item_l0
 cases st1 with
 | none =>
  have hz : n = 0 := by
   have : opS 4096 st = (n, none) := e1
   unfold opS at this
   cases e : st.bind (pS 4096) with
   | none => rw [e] at this; cases this; rfl
   | some p => rw [e] at this; cases this
  subst hz
  obtain ⟨bot, eb⟩ := iterK_of (fun _ _ _ _ _ _ => none) (index_list_api_Item_l0b k (DD k) j3) (show 0 + 1 ≤ k by omega)
  rw [eb, iterK_s]; simp only [index_list_api_Item_l0b]
  refine .ifn (by decide) ?_
  rw [h3]
  exact .of ⟨P4, fun q => absurd rfl q, c4⟩
 | some l =>
  obtain ⟨bot, eb⟩ := iterK_of (fun _ _ _ _ _ _ => none) (index_list_api_Item_l0b k (DD k) j3) (show n + 1 ≤ k by omega)
  rw [eb]
  have loop : ∀ (d i : Nat) (o : Slc) (H : AHeap) (xs : List It) (l : List UInt8), i + d = n → xs.length = i → PRd H rb (some l) → Chg (· = rb) h H → AccW 6 itC 57 h.next H o xs → Gx.Wp (iterK bot (d + 1) (index_list_api_Item_l0b k (DD k) j3) (some ⟨rb, 0, none⟩) (.func (.func 59) ⟨[]⟩ ⟨[]⟩) o (n : Int) (i : Int) H) fun z => PRd z.2 rb (runL opI d (some l)).2 ∧ ((runL opI d (some l)).2 ≠ none → AccW 6 itC 57 h.next z.2 z.1 (xs ++ (runL opI d (some l)).1)) ∧ Chg (· = rb) h z.2 := fun d => by
   induction d with
   | zero =>
    intro i o H xs l hd hx P c A
    rw [iterK_s]; simp only [index_list_api_Item_l0b]
    refine .ifn (by simp; omega) ?_
    rw [h3]
    refine .of ⟨P, fun _ => ?_, c⟩
    show AccW 6 itC 57 h.next H o (xs ++ [])
    rw [List.append_nil]; exact A
   | succ d ih =>
    intro i o H xs l hd hx P c A
    rw [iterK_s]; simp only [index_list_api_Item_l0b]
    have nx := c.nx
    refine .ifp (by simp; omega) (dd_item (k := k) (by omega) (by omega) P rfl fun h' P' c' => ?_)
    obtain ⟨x, s2, e2⟩ : ∃ x s2, opI (some l) = (x, s2) := ⟨_, _, rfl⟩
    rw [e2] at P' ⊢
    dsimp only at P' ⊢
    have nx' := c'.nx
    have A' := A.chg c' fun a ha q => by have := (A.lt a ha).2; omega
    have c2 : Chg (· = rb) h h' := Chg.trans c c'
    refine .bnd (decI6 x) (Wp.newE fun h16 e16 k16 n16 g16 => Wp.stL g16 rfl rfl rfl (by decide) fun h17 c17 n17 g17 => ?_)
    have k17 : Keeps h' h17 := k16.keepsS c17 fun y hy => by subst hy; omega
    obtain ⟨s, e, g0, hsz, he, hl⟩ := P'
    have g := k17.got (by omega) g0
    have c3 : Chg (· = rb) h h17 := Chg.trans c2 (Chg.keeps k17)
    refine .bnd (err_spec (DD k) g) ?_
    cases s2 with
    | none =>
     have hne : e ≠ 0 := fun q => by simpa using he.1 q
     rw [run_stop e2]
     exact .ifp (by simpa using hne) (.of ⟨PRd.bad g hsz hne, fun q => absurd rfl q, c3⟩)
    | some m =>
     have e0 : e = 0 := he.2 rfl
     have es : s = bA m := hl m rfl
     rw [run_cons e2]
     have gx : h17.get h'.next = some (.cells (itC x) 57 true 0) := g17
     refine .ifn (by simp [e0]) (.bnd (sldA_at gx rfl) (.bnd (decI6 x) (Wp.newE fun h3 e3 k3 n3 g3 => ?_)))
     have eH : h3 = h17.new (.cells (itC x) 57 true 0) := e3
     rw [eH]
     obtain ⟨s', h9, a2, A9, c9, d9⟩ := (A'.keeps k17).push itC_len itC_one x (bytes := 64) (by decide) (by omega) (by omega)
     refine .bnd (rdS_oneW itC_len x 57) (.bnd a2 ?_)
     rw [Gx.w1 (by omega)]
     have hc9 : ∀ y, ofS o y → h.next ≤ y := fun y ⟨a, ha, e⟩ => by rw [e]; exact (A'.lt a ha).2
     have g' : h9.get rb = some (.cells [.string (bA m), .int .i64 0] 142 true 0) := by
      have := c9.got (by omega) (fun q => by have := hc9 _ q; omega) g
      rw [this, es, e0]
     have := ih (i + 1) s' h9 (xs ++ [x]) m (by omega) (by simp [hx]) (PRd.ok g' (by rw [← bA_size, ← es]; exact hsz)) (Chg.beh c3 c9 fun y hy q => by have := hc9 y q; omega) A9
     simp only [List.append_assoc, List.singleton_append] at this
     exact this
  have := loop n 0 ⟨none, 0, 0⟩ r4.2 [] l (by omega) rfl P4 c4 (AccW.nil _ _ _ _ _)
  simpa using this
end
end Gc
namespace Gc
open Go Gx
section
variable {k rb : Nat} {h H H' : AHeap} {st : Rd}
theorem cut_spec (D : CallF) (s p : ByteArray) (h : AHeap) : strings_CutPrefix k D s p h = some (if (bl s).take p.size = bl p then (bA ((bl s).drop p.size), true) else (s, false), h) := by
 simp only [strings_CutPrefix, internal_stringslite_CutPrefix, internal_stringslite_HasPrefix]
 have hs : (bl s).length = s.size := rfl
 have hp : (bl p).length = p.size := rfl
 by_cases c : p.size ≤ s.size
 ·rw [if_pos (by simp; omega)]
  have s1 := subS_of (s := s) (lo := none) (hi := some (p.size : Int)) (i := 0) (j := p.size) rfl rfl (Nat.zero_le _) c
  have s2 := subS_of (s := s) (lo := some (p.size : Int)) (hi := none) (i := p.size) (j := s.size) rfl rfl c (Nat.le_refl _)
  rw [List.take_of_length_le (l := bl s) (by omega)] at s2
  rw [List.drop_zero] at s1
  simp only [s1, s2, Option.bind_some, beq_ba]
  by_cases c2 : (bl s).take p.size = bl p
  ·have this2 : (⟨⟨bl p⟩⟩ : ByteArray) = p := rfl
   simp [c2, this2]
   rfl
  ·have : ¬ (⟨⟨(bl s).take p.size⟩⟩ : ByteArray) = p := fun e => c2 (congrArg bl e)
   simp [this, c2]
 ·rw [if_neg (by simp; omega)]
  have : ¬ (bl s).take p.size = bl p := fun e => by
   have := congrArg List.length e
   rw [List.length_take] at this; omega
  simp [this]
def noF : (Slc × Slc) × Int := ((⟨none, 0, 0⟩, ⟨none, 0, 0⟩), 160)
theorem decode_spec (hk : 20000 ≤ k) (s : ByteArray) (h : AHeap) : Gx.Wp (index_Decode k (DD k) s h) fun z => (∀ f, decF (bl s) = some f → z.1.2 = 0 ∧ Row encS z.2 z.1.1.1 f.1 ∧ RowW 6 itC z.2 z.1.1.2 f.2 ∧ (∀ a, z.1.1.1.a = some a → h.next ≤ a.block) ∧ ∀ a, z.1.1.2.a = some a → h.next ≤ a.block) ∧ (decF (bl s) = none → z.1 = noF) ∧ Keeps h z.2 := by
 simp only [index_Decode]
 have hs : (bl s).length = s.size := rfl
 refine Wp.newE fun h1 e1 k1 n1 g1 => .bnd (cut_spec (DD k) s ⟨#[71, 82, 84, 73, 1]⟩ h1) (Gx.Wp.jn fun j7 h7 => ?_)
 have bad7 : ∀ rest, decF (bl s) = none → Gx.Wp (j7 (some ⟨h.next, 0, none⟩) rest true h1) fun z => (∀ f, decF (bl s) = some f → z.1.2 = 0 ∧ Row encS z.2 z.1.1.1 f.1 ∧ RowW 6 itC z.2 z.1.1.2 f.2 ∧ (∀ a, z.1.1.1.a = some a → h.next ≤ a.block) ∧ ∀ a, z.1.1.2.a = some a → h.next ≤ a.block) ∧ (decF (bl s) = none → z.1 = noF) ∧ Keeps h z.2 := fun rest hd => by
  rw [h7]
  refine .ifp rfl (.bnd rfl (Wp.stL g1 rfl rfl rfl (by decide) fun h9 c9 n9 g9 => .bnd rfl (.bnd (sldA_at g9 rfl) (.bnd rfl (.of ⟨fun f hf => (by rw [hd] at hf; cases hf), fun _ => rfl, k1.keepsS c9 fun y hy => by subst hy; omega⟩)))))
 have pre : bl (⟨#[71, 82, 84, 73, 1]⟩ : ByteArray) = headB := rfl
 have psz : (⟨#[71, 82, 84, 73, 1]⟩ : ByteArray).size = 5 := rfl
 rw [pre, psz]
 by_cases c1 : (bl s).take 5 = headB
 rotate_left
 ·rw [if_neg c1]
  exact .ifp rfl (bad7 _ (by unfold decF; rw [if_neg (fun q => c1 q.2)]))
 rw [if_pos c1]
 refine .ifn (by simp) ?_
 by_cases c2 : 65536 < s.size
 ·rw [decide_eq_true (by omega)]
  exact bad7 _ (by unfold decF; rw [if_neg (fun q => by omega)])
 rw [decide_eq_false (by omega), h7]
 have hlen : (bl s).length ≤ 65536 := by omega
 refine .ifn (by decide) ?_
 simp only [num_Read]
 refine .bnd rfl ?_
 obtain ⟨h13, e13⟩ : ∃ h13, h13 = AHeap.new h1 (.cells [.string (bA ((bl s).drop 5)), .int .i64 0] 142 true 0) := ⟨_, rfl⟩
 rw [← e13]
 have k13 : Keeps h1 h13 := by rw [e13]; exact Keeps.new _ _
 have n13 : h13.next = h1.next + 1 := by rw [e13]; rfl
 have g13 : h13.get h1.next = some (.cells [.string (bA ((bl s).drop 5)), .int .i64 0] 142 true 0) := by rw [e13]; simp
 have P13 : PRd h13 h1.next (some ((bl s).drop 5)) := PRd.ok g13 (by rw [List.length_drop]; omega)
 refine Wp.newE fun h14 e14 k14x n14x g14x => ?_
 have k14 : Keeps h13 h14 := k14x
 have n14 : h14.next = h13.next + 1 := n14x
 have g14 : h14.get h13.next = some (.cells [.slice none 0 0, .slice none 0 0] 25 true 0) := g14x
 obtain ⟨a1, s1, ea1⟩ : ∃ n s1, opS 4096 (some ((bl s).drop 5)) = (n, s1) := ⟨_, _, rfl⟩
 obtain ⟨l1, s2, ea2⟩ : ∃ l s2, runL (opB 32) a1 s1 = (l, s2) := ⟨_, _, rfl⟩
 obtain ⟨a3, s3, ea3⟩ : ∃ n s3, opS 4096 s2 = (n, s3) := ⟨_, _, rfl⟩
 obtain ⟨l2, s4, ea4⟩ : ∃ l s4, runL opI a3 s3 = (l, s4) := ⟨_, _, rfl⟩
 have eF : opFile (some ((bl s).drop 5)) = ((l1, l2), s4) := by
  unfold opFile
  simp only [ea1, ea2, ea3, ea4]
 refine .call (listS_spec (by omega) (by omega) (P13.keeps (by omega) k14)) fun r15 ⟨P15, A15, c15⟩ => ?_
 rw [ea1] at P15 A15
 dsimp only at P15 A15
 rw [ea2] at P15 A15
 dsimp only at P15 A15
 have n15 := c15.nx
 have g15 := c15.got (by omega) (by omega) g14
 refine Wp.st g15 (by simp) rfl fun h16 c16 n16 g16 => ?_
 have P16 := P15.chg (by omega) c16 (by omega)
 refine .call (listI_spec (by omega) (by omega) P16) fun r17 ⟨P17, A17, c17⟩ => ?_
 rw [ea3] at P17 A17
 dsimp only at P17 A17
 rw [ea4] at P17 A17
 dsimp only at P17 A17
 have n17 := c17.nx
 have g17 := c17.got (by omega) (by omega) g16
 refine Wp.st g17 (by simp) rfl fun h18 c18 n18 g18 => Gx.Wp.jn fun j23 h23 => ?_
 have P18 := P17.chg (by omega) c18 (by omega)
 refine .call (rend_spec (DD k) P18) fun r37 ⟨q37, c37⟩ => ?_
 have n37 := c37.nx
 have g137 : r37.2.get h.next = some (.cells [.slice none 0 0, .slice none 0 0] 25 true 0) := by
  have a := k13.got (by omega) g1
  have a := k14.got (by omega) a
  have a := c15.got (by omega) (by omega) a
  have a := c16.got (by omega) (by omega) a
  have a := c17.got (by omega) (by omega) a
  have a := c18.got (by omega) (by omega) a
  exact c37.got (by omega) (by omega) a
 have kz : Keeps h r37.2 := by
  have a : Keeps h h14 := (k1.trans k13).trans k14
  have a := a.keepsS c15 fun y hy => by subst hy; omega
  have a := a.keepsS c16 fun y hy => by subst hy; omega
  have a := a.keepsS c17 fun y hy => by subst hy; omega
  have a := a.keepsS c18 fun y hy => by subst hy; omega
  exact a.keepsS c37 fun y hy => by subst hy; omega
 have bad23 : ∀ H f20, decF (bl s) = none → Keeps h H → H.get h.next = some (.cells [.slice none 0 0, .slice none 0 0] 25 true 0) → h.next < H.next → Gx.Wp (j23 (some ⟨h.next, 0, none⟩) f20 true H) fun z => (∀ f, decF (bl s) = some f → z.1.2 = 0 ∧ Row encS z.2 z.1.1.1 f.1 ∧ RowW 6 itC z.2 z.1.1.2 f.2 ∧ (∀ a, z.1.1.1.a = some a → h.next ≤ a.block) ∧ ∀ a, z.1.1.2.a = some a → h.next ≤ a.block) ∧ (decF (bl s) = none → z.1 = noF) ∧ Keeps h z.2 := fun H f20 hd kH gH hl => by
  rw [h23]
  refine .ifp rfl (.bnd rfl (Wp.stL gH rfl rfl rfl (by decide) fun h9 c9 n9 g9 => .bnd rfl (.bnd (sldA_at g9 rfl) (.bnd rfl (.of ⟨fun f hf => (by rw [hd] at hf; cases hf), fun _ => rfl, kH.keepsS c9 fun y hy => by subst hy; omega⟩)))))
 by_cases c3 : s4 = some []
 rotate_left
 ·have hne : ¬ r37.1 = 0 := fun q => c3 (q37.1 q)
  refine .ifp (by simpa using hne) (bad23 _ _ ?_ kz g137 (by omega))
  unfold decF
  rw [if_pos ⟨hlen, c1⟩, eF, if_neg (fun q => c3 q.1)]
 ·have h0 : r37.1 = 0 := q37.2 c3
  have s3n : s3 ≠ none := fun q => by
   rw [q] at ea4
   have e0 : a3 = 0 := by
    rw [q] at ea3
    unfold opS at ea3
    cases e : s2.bind (pS 4096) with
    | none => rw [e] at ea3; cases ea3; rfl
    | some p => rw [e] at ea3; cases ea3
   rw [e0] at ea4
   cases ea4
   cases c3
  have s2n : s2 ≠ none := fun q => by
   rw [q] at ea3
   cases ea3
   exact s3n rfl
  have As := A15 s2n
  have Ai := A17 (by rw [c3]; simp)
  have g37 : r37.2.get h13.next = some (.cells [.slice r15.1.a r15.1.len r15.1.cap, .slice r17.1.a r17.1.len r17.1.cap] 25 true 0) := c37.got (by omega) (by omega) g18
  have ks : Keeps h14 r15.2 ∨ True := .inr trivial
  have pa : ∀ a, r15.1.a = some a → a.block < r15.2.next ∧ h14.next ≤ a.block := As.lt
  have pb : ∀ a, r17.1.a = some a → a.block < r17.2.next ∧ h16.next ≤ a.block := Ai.lt
  have R1 : Row encS r37.2 r15.1 l1 := by
   have a := As.row
   have a := a.chg c16 fun x hx q => by have := (pa x hx).2; omega
   have a := a.chg c17 fun x hx q => by have := (pa x hx).2; omega
   have a := a.chg c18 fun x hx q => by have := (pa x hx).2; omega
   exact a.chg c37 fun x hx q => by have := (pa x hx).2; omega
  have R2 : RowW 6 itC r37.2 r17.1 l2 := by
   have a := Ai.row itC_len
   have a := a.chg c18 fun x hx q => by have := (pb x hx).2; omega
   exact a.chg c37 fun x hx q => by have := (pb x hx).2; omega
  have m1 : l1.length ≤ 4096 := by
   have h1 : (runL (opB 32) a1 s1).2 = s2 := by rw [ea2]
   cases hs2 : s2 with
   | none => exact absurd hs2 s2n
   | some m =>
    rw [hs2] at h1
    obtain ⟨g1, gl⟩ := runB_inv h1
    rw [ea2] at gl
    obtain ⟨_, g3⟩ := opS_inv (s := some ((bl s).drop 5)) (most := 4096) (by rw [ea1]; exact g1)
    rw [ea1] at g3
    dsimp only at gl g3
    omega
  have m2 : l2.length ≤ 4096 := by
   have h1 : (runL opI a3 s3).2 = some [] := by rw [ea4, c3]
   obtain ⟨g1, gl⟩ := runI_inv h1
   rw [ea4] at gl
   obtain ⟨_, g3⟩ := opS_inv (s := s2) (most := 4096) (by rw [ea3]; exact g1)
   rw [ea3] at g3
   dsimp only at gl g3
   omega
  refine .ifn (by simp [h0]) (.bnd (sldA_at g37 rfl) (.bnd (show decC [.l, .l] [.slice r15.1.a r15.1.len r15.1.cap, .slice r17.1.a r17.1.len r17.1.cap] = some (r15.1, r17.1) from rfl) (.call (check_file (by omega) R1 R2 (by omega) (by omega)) fun r40 ⟨q40, k40⟩ => ?_)))
  have n40 := k40.nx
  have g40 := k40.got (by omega) g137
  rw [q40]
  by_cases c4 : chkF l1 l2 = 0
  ·have hd : decF (bl s) = some (l1, l2) := by
    unfold decF
    rw [if_pos ⟨hlen, c1⟩, eF, if_pos ⟨c3, c4⟩]
   rw [c4, h23]
   have g40f := k40.got (by omega) g37
   refine .ifn (by decide) (.bnd rfl (.bnd (sldA_at g40f rfl) (.bnd (show decC [.l, .l] [.slice r15.1.a r15.1.len r15.1.cap, .slice r17.1.a r17.1.len r17.1.cap] = some (r15.1, r17.1) from rfl) (.bnd rfl (Wp.stL g40 rfl rfl rfl (by decide) fun h33 c33 n33 g33 => .bnd rfl (.bnd (sldA_at g33 rfl) (.bnd rfl (.of ⟨fun f hf => ?_, fun hn => (by rw [hd] at hn; cases hn), (kz.trans k40).keepsS c33 fun y hy => by subst hy; omega⟩))))))))
   rw [hd] at hf
   cases hf
   exact ⟨rfl, (R1.keeps k40).chg c33 fun x hx q => by have := (pa x hx).2; omega, (R2.keeps k40).chg c33 fun x hx q => by have := (pb x hx).2; omega, fun a ha => by have := (pa a ha).2; omega, fun a ha => by have := (pb a ha).2; omega⟩
  ·have hd : decF (bl s) = none := by
    unfold decF
    rw [if_pos ⟨hlen, c1⟩, eF, if_neg (fun q => c4 q.2)]
   have hb : (chkF l1 l2 != 0) = true := by simpa using c4
   rw [hb]
   exact bad23 _ _ hd (kz.trans k40) g40 (by omega)
end
end Gc
namespace Gc
open Go Gx
def hexT : List UInt8 := [48, 49, 50, 51, 52, 53, 54, 55, 56, 57, 97, 98, 99, 100, 101, 102]
def hexD (n : Nat) : UInt8 := hexT.getD n 0
def hexL (l : List UInt8) : List UInt8 := l.flatMap fun c => [hexD (c.toNat / 16), hexD (c.toNat % 16)]
def digV (c : UInt8) : Option Nat := if 48 ≤ c.toNat ∧ c.toNat ≤ 57 then some (c.toNat - 48) else if 97 ≤ c.toNat ∧ c.toNat ≤ 102 then some (c.toNat - 87) else none
def unhexL : List UInt8 → Option (List UInt8)
 | [] => some []
 | [_] => none
 | a :: b :: l => match digV a, digV b, unhexL l with
  | some x, some y, some r => some (UInt8.ofNat (16 * x + y) :: r)
  | _, _, _ => none
theorem hexD_at {n : Nat} (h : n < 16) : hexT[n]? = some (hexD n) := by
 have : ∀ n : Fin 16, hexT[n.val]? = some (hexD n.val) := by decide
 exact this ⟨n, h⟩
theorem digV_lt {c : UInt8} {x : Nat} (h : digV c = some x) : x < 16 := by
 unfold digV at h
 split at h
 ·cases h; omega
 ·split at h
  ·cases h; omega
  ·cases h
theorem hexL_len (l : List UInt8) : (hexL l).length = 2 * l.length := by
 induction l with
 | nil => rfl
 | cons c l ih =>
  have e : hexL (c :: l) = hexD (c.toNat / 16) :: hexD (c.toNat % 16) :: hexL l := rfl
  rw [e]; simp only [List.length_cons, ih]; omega
theorem idxB_dig (c : UInt8) : idxB ⟨#[48, 49, 50, 51, 52, 53, 54, 55, 56, 57, 97, 98, 99, 100, 101, 102]⟩ (c.toNat : Int) = match digV c with | some v => (v : Int) | none => -1 := by
 have : ∀ c : Fin 256, idxB ⟨#[48, 49, 50, 51, 52, 53, 54, 55, 56, 57, 97, 98, 99, 100, 101, 102]⟩ (c.val : Int) = match digV (UInt8.ofNat c.val) with | some v => (v : Int) | none => -1 := by decide +kernel
 have h := this ⟨c.toNat, c.toNat_lt⟩
 simp only [UInt8.ofNat_toNat] at h
 exact h
theorem and15 (c : UInt8) : Go.bits .and .u8 (c.toNat : Int) 15 = ((c.toNat % 16 : Nat) : Int) := by
 have : ∀ c : Fin 256, Go.bits .and .u8 (c.val : Int) 15 = ((c.val % 16 : Nat) : Int) := by decide +kernel
 exact this ⟨c.toNat, c.toNat_lt⟩
theorem orHex {x y : Nat} (hx : x < 16) (hy : y < 16) : IntKind.wrap .u8 (Go.bits .or .i64 (IntKind.wrap .i64 ((x : Int) * 16)) (y : Int)) = ((16 * x + y : Nat) : Int) := by
 have : ∀ x y : Fin 16, IntKind.wrap .u8 (Go.bits .or .i64 (IntKind.wrap .i64 ((x.val : Int) * 16)) (y.val : Int)) = ((16 * x.val + y.val : Nat) : Int) := by decide +kernel
 exact this ⟨x, hx⟩ ⟨y, hy⟩
section
variable {k base bb : Nat} {H : AHeap} {s : Slc} {l : List UInt8}
theorem wbyte_spec (D : CallF) (B : BuS base H bb s l) (c : UInt8) (hx : l.length ≤ 100000000) :
  Gx.Wp (strings_Builder_WriteByte k D (some ⟨bb, 0, none⟩) (c.toNat : Int) H) fun z => ∃ s', BuS base z.2 bb s' (l ++ [c]) ∧ Chg (BOwn bb s) H z.2 ∧ ∀ y, BOwn bb s' y → H.next ≤ y ∨ BOwn bb s y := by
 simp only [strings_Builder_WriteByte]
 obtain ⟨pv, g, hpv⟩ := B.blk
 have hlt := B.lt
 have hge := B.ge
 obtain ⟨H1, e1, g1, c1⟩ : ∃ H1, ccA ccTab ⟨bb, 0, none⟩ H = some H1 ∧ H1.get bb = some (.cells [.pointer (some ⟨bb, 0, none⟩), .slice s.a s.len s.cap] 111 true 0) ∧ Chg (· = bb) H H1 := by
  have ht : tabIn 111 0 2 ccTab = true := by decide
  rcases hpv with rfl | rfl
  ·refine ⟨_, ?_, sset_get _ _ _, Chg.set (.inr rfl)⟩
   ·unfold ccA
    simp only [g]
    rw [if_pos ⟨by simpa using ht, trivial⟩]
    show st1 ⟨bb, 0, none⟩ _ H = _
    rw [st1_of g (by simp) rfl]; rfl
  ·refine ⟨H, ?_, g, .refl _ _⟩
   ·unfold ccA
    simp only [g]
    rw [if_pos ⟨by simpa using ht, trivial⟩]
    simp
 have nx1 := c1.nx
 have A1 : Acc encB 5 base H1 s l := B.acc.chg c1 fun a ha e => B.ne a ha e
 refine .bnd rfl (.bnd e1 (.bnd rfl (.bnd (sldL_at (o := 0 + 1) g1 rfl) (Wp.newE fun H5 e5 k5 n5 g5 => ?_))))
 obtain ⟨s', h5, a1, a2, A5, c5, d5⟩ := Acc.pushK A1 (fun _ => rfl) c (bytes := 1) e5 (by omega) (by decide) (by omega)
 have nn := c5.nx
 have g15 : h5.get bb = some (.cells [.pointer (some ⟨bb, 0, none⟩), .slice s.a s.len s.cap] 111 true 0) := c5.got (by omega) (fun ⟨a, ha, e⟩ => B.ne a ha e.symm) g1
 refine .bnd a1 (.bnd a2 (.bnd rfl (.bnd (st1_of g15 (by simp) rfl) (.of ?_))))
 have d5' : ∀ a, s'.a = some a → a.block ≠ bb := fun a ha e => by have := d5 a ha; omega
 refine ⟨s', ⟨⟨_, sset_get _ _ _, .inr rfl⟩, A5.chg (S := (· = bb)) (Chg.set (.inr rfl)) fun a ha e => d5' a ha e, by simp; omega, hge, d5'⟩, ?_, ?_⟩
 ·refine Chg.beh (T := (· = bb)) (Chg.beh (T := ofS s) (c1.wk fun y _ e => .inl e) c5 fun y _ e => .inr e) (Chg.set (.inr rfl)) fun y _ e => .inl e
 ·rintro y (rfl | ⟨a, ha, rfl⟩)
  ·exact .inr (.inl rfl)
  ·left; have := d5 a ha; omega
theorem tbl_at {n : Nat} (h : n < 16) : Gx.idxS ⟨#[48, 49, 50, 51, 52, 53, 54, 55, 56, 57, 97, 98, 99, 100, 101, 102]⟩ (n : Int) = some ((hexD n).toNat : Int) := idxS_of (hexD_at h)
theorem hex_spec (D : CallF) (s : ByteArray) (hs : s.size ≤ 2000000) (hk : s.size + 10 ≤ k) (h : AHeap) : Gx.Wp (sha_Hex k D s h) fun z => z.1 = bA (hexL (bl s)) ∧ Keeps h z.2 := by
 simp only [sha_Hex]
 have hl : (bl s).length = s.size := rfl
 refine Wp.newE fun h1 e1 k1 n1 g1 => Gx.Wp.jn fun j4 h4 => Wp.newE fun h6 e6 k6 n6 g6 => ?_
 have B1 : BuS h.next h1 h.next ⟨none, 0, 0⟩ [] := BuS.new h g1 n1
 unfold sha_Hex_l0
 obtain ⟨bot, eb⟩ := iterK_of (fun _ _ _ _ _ => none) (sha_Hex_l0b k D j4) (show s.size + 1 ≤ k by omega)
 rw [eb]
 have loop : ∀ (d i : Nat) (o : Slc) (H : AHeap), i + d = s.size → Chg (BOwn h.next ⟨none, 0, 0⟩) h6 H → BuS h.next H h.next o (hexL ((bl s).take i)) → (∀ y, BOwn h.next o y → h6.next ≤ y ∨ y = h.next) → Gx.Wp (iterK bot (d + 1) (sha_Hex_l0b k D j4) (some ⟨h.next, 0, none⟩) ⟨some ⟨h1.next, 0, some 2⟩, s.size, s.size⟩ (s.size : Int) (i : Int) H) fun z => z.1 = bA (hexL (bl s)) ∧ Keeps h z.2 := fun d => by
  induction d with
  | zero =>
   intro i o H hd c B ho
   rw [iterK_s]; simp only [sha_Hex_l0b]
   rw [List.take_of_length_le (by omega)] at B
   refine .ifn (by simp; omega) ?_
   rw [h4]
   have hll := hexL_len (bl s)
   refine .call (bstring_spec D B (by omega)) fun r ⟨q1, q2, _⟩ => .of ⟨q1, ?_⟩
   have kH : Keeps h H := (k1.trans k6).keepsS c fun y hy => by
    rcases hy with rfl | ⟨a, ha, _⟩
    ·exact Nat.le_refl _
    ·cases ha
   exact kH.keepsS q2 fun y hy => (B.own hy).1
  | succ d ih =>
   intro i o H hd c B ho
   rw [iterK_s]; simp only [sha_Hex_l0b]
   obtain ⟨x, hx⟩ := isome (l := bl s) (i := i) (by omega)
   have hxl := x.toNat_lt
   have nx := c.nx
   have g6' : h6.get h1.next = some (.cells ((bl s).map encB) 5 true 18446744073709551616) := g6
   have gH : H.get h1.next = some (.cells ((bl s).map encB) 5 true 18446744073709551616) := c.got (by omega) (fun q => by
    rcases q with q | ⟨a, ha, _⟩
    ·omega
    ·cases ha) g6'
   have ei : Gx.idxL 1 ⟨some ⟨h1.next, 0, some 2⟩, s.size, s.size⟩ (i : Int) = some ⟨h1.next, i, none⟩ := idxL_out (by omega)
   have lh := hexL_len ((bl s).take i)
   rw [List.length_take] at lh
   have f16 : Int.fdiv (x.toNat : Int) 16 = ((x.toNat / 16 : Nat) : Int) := by rw [Int.fdiv_eq_ediv_of_nonneg _ (by decide)]; omega
   refine .ifp (by simp; omega) (.bnd ei (.bnd (rdB_out gH hx) ?_))
   rw [f16, and15]
   refine .bnd (tbl_at (by omega)) (.call (wbyte_spec D B _ (by omega)) fun r1 ⟨o1, B1, c1, d1⟩ => .bnd (tbl_at (by omega)) (.call (wbyte_spec D B1 _ (by rw [List.length_append, List.length_singleton]; omega)) fun r2 ⟨o2, B2, c2, d2⟩ => ?_))
   rw [Gx.w1 (by omega)]
   have n1' := c1.nx
   have ho1 : ∀ y, BOwn h.next o1 y → h6.next ≤ y ∨ y = h.next := fun y hy => by
    rcases d1 y hy with q | q
    ·left; omega
    ·exact ho y q
   refine ih (i + 1) o2 r2.2 (by omega) ?_ ?_ (fun y hy => ?_)
   ·refine Chg.beh (Chg.beh c c1 fun y hy q => ?_) c2 fun y hy q => ?_
    ·rcases ho y q with e | e
     ·omega
     ·exact .inl e
    ·rcases ho1 y q with e | e
     ·omega
     ·exact .inl e
   ·have : hexL ((bl s).take (i + 1)) = hexL ((bl s).take i) ++ [hexD (x.toNat / 16)] ++ [hexD (x.toNat % 16)] := by
     rw [List.take_add_one, hx]; simp [hexL]
    rw [this]; exact B2
   ·rcases d2 y hy with q | q
    ·left; omega
    ·exact ho1 y q
 exact loop s.size 0 ⟨none, 0, 0⟩ h6 (by omega) (.refl _ _) (by simpa [hexL] using B1.keeps k6) (fun y hy => by
  rcases hy with e | ⟨a, ha, _⟩
  ·exact .inr e
  ·cases ha)
end
end Gc
namespace Gc
open Go Gx
def digI (c : UInt8) : Int := match digV c with | some v => (v : Int) | none => -1
theorem digI_some {c : UInt8} {x : Nat} (h : digV c = some x) : digI c = (x : Int) := by unfold digI; rw [h]
theorem digI_none {c : UInt8} (h : digV c = none) : digI c = -1 := by unfold digI; rw [h]
section
variable {k base bb : Nat} {H : AHeap} {s : Slc} {l : List UInt8}
theorem rhex_spec (D : CallF) (s : ByteArray) (hs : s.size ≤ 2000000) (hk : s.size + 10 ≤ k) (h : AHeap) : Gx.Wp (ref02_Hex k D s h) fun z => z.1 = bA (hexL (bl s)) ∧ Keeps h z.2 := by
 simp only [ref02_Hex]
 have hl : (bl s).length = s.size := rfl
 refine Gx.Wp.jn fun j4 h4 => ?_
 unfold ref02_Hex_l0
 obtain ⟨bot, eb⟩ := iterK_of (fun _ _ _ _ _ => none) (ref02_Hex_l0b k D j4) (show s.size + 1 ≤ k by omega)
 rw [eb]
 have loop : ∀ (d i : Nat) (o : Slc) (H : AHeap), i + d = s.size → Keeps h H → Acc encB 5 h.next H o (hexL ((bl s).take i)) → Gx.Wp (iterK bot (d + 1) (ref02_Hex_l0b k D j4) s ⟨#[48, 49, 50, 51, 52, 53, 54, 55, 56, 57, 97, 98, 99, 100, 101, 102]⟩ o (i : Int) H) fun z => z.1 = bA (hexL (bl s)) ∧ Keeps h z.2 := fun d => by
  induction d with
  | zero =>
   intro i o H hd kp A
   rw [iterK_s]; simp only [ref02_Hex_l0b]
   rw [List.take_of_length_le (by omega)] at A
   refine .ifn (by simp; omega) ?_
   rw [h4]
   exact .bnd (bytes_row A.row) (.of ⟨rfl, kp⟩)
  | succ d ih =>
   intro i o H hd kp A
   rw [iterK_s]; simp only [ref02_Hex_l0b]
   obtain ⟨x, hx⟩ := isome (l := bl s) (i := i) (by omega)
   have hxl := x.toNat_lt
   have lh := hexL_len ((bl s).take i)
   rw [List.length_take] at lh
   have d16 : IntKind.wrap .u8 (Int.tdiv (x.toNat : Int) 16) = ((x.toNat / 16 : Nat) : Int) := by
    rw [Int.tdiv_eq_ediv_of_nonneg (by omega), Gx.w8 _ (by omega)]; omega
   have m16 : Int.tmod (x.toNat : Int) 16 = ((x.toNat % 16 : Nat) : Int) := by rw [Int.tmod_eq_emod_of_nonneg (by omega)]; omega
   refine .ifp (by simp; omega) (.bnd (idxS_of hx) ?_)
   rw [d16]
   refine .bnd (tbl_at (by omega)) (.bnd (idxS_of hx) ?_)
   rw [m16]
   refine .bnd (tbl_at (by omega)) (Wp.newE fun H1 e1 k1 n1 g1 => ?_)
   have nk := kp.nx
   have A1 := A.keeps k1
   have er : Gx.rdS 1 ⟨some ⟨H.next, 0, some 0⟩, 2, 2⟩ H1 = some ([hexD (x.toNat / 16), hexD (x.toNat % 16)].map encB) := by
    simp only [Gx.rdS]
    rw [rdL_ok g1 (by simp)]
    rfl
   obtain ⟨s', h9, a2, A9, c9, d9⟩ := A1.app (fun _ => rfl) [hexD (x.toNat / 16), hexD (x.toNat % 16)] (bytes := 1) (by simp only [List.length_cons, List.length_nil]; omega) (by decide) (by omega)
   refine .bnd er (.bnd a2 ?_)
   rw [Gx.w1 (by omega)]
   refine ih (i + 1) s' h9 (by omega) ((kp.trans k1).keepsS c9 fun y ⟨a, ha, e⟩ => by rw [e]; exact (A.lt a ha).2) ?_
   have : hexL ((bl s).take (i + 1)) = hexL ((bl s).take i) ++ [hexD (x.toNat / 16), hexD (x.toNat % 16)] := by
    rw [List.take_add_one, hx]; simp [hexL]
   rw [this]; exact A9
 exact loop s.size 0 ⟨none, 0, 0⟩ h (by omega) (.refl _ _) (by simpa [hexL] using Acc.nil _ _ _ _)
def unhexR (l : List UInt8) : ByteArray × Int := match unhexL l with
 | some r => (bA r, 0)
 | none => (⟨#[]⟩, 3)
theorem unhex_snoc : ∀ (l : List UInt8) {p r : List UInt8} {n : Nat}, p.length = 2 * n → unhexL p = some r → unhexL (p ++ l) = (unhexL l).map (r ++ ·)
 | l, [], r, n, hp, h => by cases h; simp
 | l, [_], r, n, hp, h => by cases h
 | l, a :: b :: p, r, n, hp, h => by
  unfold unhexL at h
  split at h
  ·rename_i x y r2 h1 h2 h3
   cases h
   have := unhex_snoc l (p := p) (r := r2) (n := n - 1) (by simp at hp; omega) h3
   show unhexL (a :: b :: (p ++ l)) = _
   conv => lhs; unfold unhexL
   rw [h1, h2, this]
   cases unhexL l <;> rfl
  ·cases h
theorem unhex_spec (D : CallF) (s : ByteArray) (hs : s.size ≤ 2000000) (hk : s.size + 10 ≤ k) (h : AHeap) : Gx.Wp (sha_Unhex k D s h) fun z => z.1 = unhexR (bl s) ∧ Keeps h z.2 := by
 simp only [sha_Unhex]
 have hl : (bl s).length = s.size := rfl
 refine Wp.newE fun h1 e1 k1 n1 g1 => Gx.Wp.jn fun j4 h4 => ?_
 have B1 : BuS h.next h1 h.next ⟨none, 0, 0⟩ [] := BuS.new h g1 n1
 unfold sha_Unhex_l0
 obtain ⟨bot, eb⟩ := iterK_of (fun _ _ _ _ => none) (sha_Unhex_l0b k D j4) (show s.size / 2 + 1 ≤ k by omega)
 rw [eb]
 have ib : ∀ (c : UInt8) (H : AHeap), strings_IndexByte k D ⟨#[48, 49, 50, 51, 52, 53, 54, 55, 56, 57, 97, 98, 99, 100, 101, 102]⟩ (c.toNat : Int) H = some (digI c, H) := fun c H => by
  simp only [strings_IndexByte, internal_stringslite_IndexByte, Option.bind_some]
  rw [show idxB _ _ = digI c from idxB_dig c]
 have loop : ∀ (d i : Nat) (o : Slc) (H : AHeap) (r : List UInt8), i + d = s.size / 2 → Chg (BOwn h.next ⟨none, 0, 0⟩) h1 H → BuS h.next H h.next o r → unhexL ((bl s).take (2 * i)) = some r → r.length = i → Gx.Wp (iterK bot (d + 1) (sha_Unhex_l0b k D j4) s (some ⟨h.next, 0, none⟩) ((2 * i : Nat) : Int) H) fun z => z.1 = unhexR (bl s) ∧ Keeps h z.2 := fun d => by
  induction d with
  | zero =>
   intro i o H r hd c B hu hr
   have kH : Keeps h H := k1.keepsS c fun y hy => by
    rcases hy with rfl | ⟨a, ha, _⟩
    ·exact Nat.le_refl _
    ·cases ha
   rw [iterK_s]; simp only [sha_Unhex_l0b]
   by_cases c1 : 2 * i < s.size
   ·-- one is left over
    refine .ifp (by simp; omega) (.ifp (by rw [Gx.w1 (by omega)]; simp; omega) (.of ⟨?_, kH⟩))
    have hrest : ∃ y, (bl s).drop (2 * i) = [y] := by
     obtain ⟨y, hy⟩ := isome (l := bl s) (i := 2 * i) (by omega)
     refine ⟨y, ?_⟩
     rw [dropc hy, List.drop_of_length_le (by omega)]
    obtain ⟨y, hy⟩ := hrest
    have e : unhexL (bl s) = none := by
     have h2 := unhex_snoc [y] (n := i) (by rw [List.length_take]; omega) hu
     rw [← hy, List.take_append_drop, hy] at h2
     rw [h2]; rfl
    unfold unhexR
    rw [e]
   ·refine .ifn (by simp; omega) ?_
    rw [h4]
    rw [List.take_of_length_le (by omega)] at hu
    refine .call (bstring_spec D B (by omega)) fun r5 ⟨q1, q2, _⟩ => .of ⟨?_, kH.keepsS q2 fun y hy => (B.own hy).1⟩
    unfold unhexR
    rw [hu, q1]
  | succ d ih =>
   intro i o H r hd c B hu hr
   have kH : Keeps h H := k1.keepsS c fun y hy => by
    rcases hy with rfl | ⟨a, ha, _⟩
    ·exact Nat.le_refl _
    ·cases ha
   rw [iterK_s]; simp only [sha_Unhex_l0b]
   obtain ⟨a, ha⟩ := isome (l := bl s) (i := 2 * i) (by omega)
   obtain ⟨b, hb⟩ := isome (l := bl s) (i := 2 * i + 1) (by omega)
   have e1 : IntKind.wrap .i64 (((2 * i : Nat) : Int) + 1) = ((2 * i + 1 : Nat) : Int) := Gx.w1 (by omega)
   have e2 : IntKind.wrap .i64 (((2 * i : Nat) : Int) + 2) = ((2 * (i + 1) : Nat) : Int) := by rw [Gx.w64 _ (by omega)]; omega
   rw [e1, e2]
   refine .ifp (by simp; omega) (.ifn (by simp; omega) (.bnd (idxS_of ha) (.bnd (ib a H) (.bnd (idxS_of hb) (.bnd (ib b H) ?_)))))
   have hsplit : unhexL (bl s) = (unhexL (a :: b :: (bl s).drop (2 * i + 2))).map (r ++ ·) := by
    have h2 := unhex_snoc ((bl s).drop (2 * i)) (n := i) (by rw [List.length_take]; omega) hu
    rw [List.take_append_drop] at h2
    rw [h2, dropc ha, dropc hb]
   have htake : (bl s).take (2 * (i + 1)) = (bl s).take (2 * i) ++ [a, b] := by
    rw [show 2 * (i + 1) = 2 * i + 1 + 1 by omega, List.take_add_one, List.take_add_one, ha, hb]; simp
   have bad : digV a = none ∨ digV b = none → unhexL (bl s) = none := fun q => by
    rw [hsplit]
    have : unhexL (a :: b :: (bl s).drop (2 * i + 2)) = none := by
     conv => lhs; unfold unhexL
     rcases q with q | q
     ·rw [q]
     ·rw [q]; cases digV a <;> rfl
    rw [this]; rfl
   cases da : digV a with
   | none =>
    refine .ifp ?_ (.of ⟨by unfold unhexR; rw [bad (.inl da)], kH⟩)
    dsimp only
    rw [digI_none da]
    cases db : digV b with
    | none => rw [digI_none db]; simp
    | some y =>
     rw [digI_some db, if_neg (by omega)]
     decide
   | some x =>
    cases db : digV b with
    | none =>
     refine .ifp ?_ (.of ⟨by unfold unhexR; rw [bad (.inr db)], kH⟩)
     dsimp only
     rw [digI_some da, digI_none db, if_pos (by omega)]
     decide
    | some y =>
     have hx := digV_lt da
     have hy := digV_lt db
     refine .ifn ?_ ?_
     ·dsimp only
      rw [digI_some da, digI_some db]
      split <;> simp <;> omega
     ·dsimp only
      rw [digI_some da, digI_some db, orHex hx hy]
      have ec : (((16 * x + y : Nat) : Int)) = ((UInt8.ofNat (16 * x + y)).toNat : Int) := by simp [UInt8.toNat_ofNat']; omega
      rw [ec]
      refine .call (wbyte_spec D B _ (by omega)) fun r16 ⟨o2, B2, c2, d2⟩ => ?_
      refine ih (i + 1) o2 r16.2 (r ++ [UInt8.ofNat (16 * x + y)]) (by omega) (Chg.beh c c2 fun z hz q => ?_) B2 ?_ (by simp [hr])
      ·have := (B.own q).1
       by_cases e : z = h.next
       ·exact .inl e
       ·omega
      ·rw [htake, unhex_snoc [a, b] (n := i) (by rw [List.length_take]; omega) hu]
       have : unhexL [a, b] = some [UInt8.ofNat (16 * x + y)] := by
        conv => lhs; unfold unhexL
        rw [da, db]; rfl
       rw [this]; rfl
 exact loop (s.size / 2) 0 ⟨none, 0, 0⟩ h1 [] (by omega) (.refl _ _) B1 (by simp [unhexL]) rfl
theorem digit_spec (D : CallF) (c : UInt8) (H : AHeap) : ref02_digit k D (c.toNat : Int) H = some ((match digV c with | some v => (v : Int) | none => -1), H) := by
 have hc := c.toNat_lt
 simp only [ref02_digit, joinK]
 unfold digV
 by_cases c1 : 48 ≤ c.toNat ∧ c.toNat ≤ 57
 ·rw [if_pos c1, if_pos (by simp; omega), if_pos (by simp; omega)]
  rw [Gx.w8 _ (by omega), Gx.w64 _ (by omega)]
  simp; omega
 ·rw [if_neg c1]
  have nx : ∀ x : Bool, x = false → (if x = true then some (IntKind.wrap .i64 (IntKind.wrap .u8 ((c.toNat : Int) - 48)), H) else (if decide ((c.toNat : Int) ≥ 97) = true then (if decide ((c.toNat : Int) ≤ 102) = true then some (IntKind.wrap .i64 (IntKind.wrap .i64 (IntKind.wrap .u8 ((c.toNat : Int) - 97)) + 10), H) else some (-1, H)) else (if false = true then some (IntKind.wrap .i64 (IntKind.wrap .i64 (IntKind.wrap .u8 ((c.toNat : Int) - 97)) + 10), H) else some (-1, H)))) = some ((match (if 97 ≤ c.toNat ∧ c.toNat ≤ 102 then some (c.toNat - 87) else none) with | some v => (v : Int) | none => -1), H) := fun x hx => by
   rw [hx, if_neg (by decide)]
   by_cases c2 : 97 ≤ c.toNat ∧ c.toNat ≤ 102
   ·rw [if_pos c2, if_pos (by simp; omega), if_pos (by simp; omega)]
    rw [Gx.w8 _ (by omega), Gx.w64 ((c.toNat : Int) - 97) (by omega), Gx.w64 _ (by omega)]
    simp; omega
   ·rw [if_neg c2]
    by_cases c3 : 97 ≤ c.toNat
    ·rw [if_pos (by simp; omega), if_neg (by simp; omega)]
    ·rw [if_neg (by simp; omega), if_neg (by decide)]
  by_cases c2 : 48 ≤ c.toNat
  ·rw [if_pos (by simp; omega)]
   exact nx _ (by simp; omega)
  ·rw [if_neg (by simp; omega)]
   exact nx _ rfl
end
end Gc
namespace Gc
open Go Gx
section
variable {k : Nat}
theorem digit_digI (D : CallF) (c : UInt8) (H : AHeap) : ref02_digit k D (c.toNat : Int) H = some (digI c, H) := digit_spec D c H
theorem unhex_even : ∀ {l r : List UInt8}, unhexL l = some r → l.length = 2 * r.length
 | [], r, h => by cases h; rfl
 | [_], r, h => by cases h
 | a :: b :: l, r, h => by
  unfold unhexL at h
  split at h
  ·rename_i x y r2 h1 h2 h3
   cases h
   have := unhex_even h3
   simp only [List.length_cons]; omega
  ·cases h
theorem runhex_spec (D : CallF) (s : ByteArray) (hs : s.size ≤ 2000000) (hk : s.size + 10 ≤ k) (h : AHeap) : Gx.Wp (ref02_Unhex k D s h) fun z => z.1 = unhexR (bl s) ∧ Keeps h z.2 := by
 simp only [ref02_Unhex]
 have hl : (bl s).length = s.size := rfl
 have tm : Int.tmod (s.size : Int) 2 = ((s.size % 2 : Nat) : Int) := by rw [Int.tmod_eq_emod_of_nonneg (by omega)]; omega
 rw [tm]
 by_cases c0 : s.size % 2 = 0
 rotate_left
 ·refine .ifp (by simp; omega) (.of ⟨?_, .refl _ _⟩)
  have : unhexL (bl s) = none := by
   cases e : unhexL (bl s) with
   | none => rfl
   | some r => have := unhex_even e; omega
  unfold unhexR
  rw [this]
 refine .ifn (by simp; omega) (Gx.Wp.jn fun j3 h3 => ?_)
 unfold ref02_Unhex_l0
 obtain ⟨bot, eb⟩ := iterK_of (fun _ _ _ _ => none) (ref02_Unhex_l0b k D j3) (show s.size / 2 + 1 ≤ k by omega)
 rw [eb]
 have loop : ∀ (d i : Nat) (o : Slc) (H : AHeap) (r : List UInt8), i + d = s.size / 2 → Keeps h H → Acc encB 5 h.next H o r → unhexL ((bl s).take (2 * i)) = some r → r.length = i → Gx.Wp (iterK bot (d + 1) (ref02_Unhex_l0b k D j3) s o ((2 * i : Nat) : Int) H) fun z => z.1 = unhexR (bl s) ∧ Keeps h z.2 := fun d => by
  induction d with
  | zero =>
   intro i o H r hd kH A hu hr
   rw [iterK_s]; simp only [ref02_Unhex_l0b]
   refine .ifn (by simp; omega) ?_
   rw [h3]
   rw [List.take_of_length_le (by omega)] at hu
   refine .bnd (bytes_row A.row) (.of ⟨?_, kH⟩)
   unfold unhexR
   rw [hu]
  | succ d ih =>
   intro i o H r hd kH A hu hr
   rw [iterK_s]; simp only [ref02_Unhex_l0b]
   obtain ⟨a, ha⟩ := isome (l := bl s) (i := 2 * i) (by omega)
   obtain ⟨b, hb⟩ := isome (l := bl s) (i := 2 * i + 1) (by omega)
   have e1 : IntKind.wrap .i64 (((2 * i : Nat) : Int) + 1) = ((2 * i + 1 : Nat) : Int) := Gx.w1 (by omega)
   have e2 : IntKind.wrap .i64 (((2 * i : Nat) : Int) + 2) = ((2 * (i + 1) : Nat) : Int) := by rw [Gx.w64 _ (by omega)]; omega
   refine .ifp (by simp; omega) (.bnd (idxS_of ha) (.bnd (digit_digI D a H) ?_))
   rw [e1]
   refine .bnd (idxS_of hb) (.bnd (digit_digI D b H) (Gx.Wp.jn fun j21 h21 => ?_))
   have hsplit : unhexL (bl s) = (unhexL (a :: b :: (bl s).drop (2 * i + 2))).map (r ++ ·) := by
    have h2 := unhex_snoc ((bl s).drop (2 * i)) (n := i) (by rw [List.length_take]; omega) hu
    rw [List.take_append_drop] at h2
    rw [h2, dropc ha, dropc hb]
   have htake : (bl s).take (2 * (i + 1)) = (bl s).take (2 * i) ++ [a, b] := by
    rw [show 2 * (i + 1) = 2 * i + 1 + 1 by omega, List.take_add_one, List.take_add_one, ha, hb]; simp
   have bad : digV a = none ∨ digV b = none → unhexR (bl s) = (⟨#[]⟩, 3) := fun q => by
    unfold unhexR
    rw [hsplit]
    have : unhexL (a :: b :: (bl s).drop (2 * i + 2)) = none := by
     conv => lhs; unfold unhexL
     rcases q with q | q
     ·rw [q]
     ·rw [q]; cases digV a <;> rfl
    rw [this]; rfl
   cases da : digV a with
   | none =>
    rw [digI_none da]
    refine .ifp (by simp) ?_
    rw [h21]
    exact .ifp rfl (.of ⟨(bad (.inl da)).symm, kH⟩)
   | some x =>
    rw [digI_some da]
    refine .ifn (by simp) ?_
    rw [h21]
    cases db : digV b with
    | none =>
     rw [digI_none db]
     exact .ifp (by simp) (.of ⟨(bad (.inr db)).symm, kH⟩)
    | some y =>
     rw [digI_some db]
     have hx := digV_lt da
     have hy := digV_lt db
     have et : IntKind.wrap .u8 (IntKind.wrap .i64 (IntKind.wrap .i64 (16 * (x : Int)) + (y : Int))) = ((UInt8.ofNat (16 * x + y)).toNat : Int) := by
      rw [Gx.w64 (16 * (x : Int)) (by omega), Gx.w64 _ (by omega), Gx.w8 _ (by omega)]
      simp [UInt8.toNat_ofNat']; omega
     refine .ifn (by simp) ?_
     dsimp only
     rw [et, e2]
     refine Wp.newE fun H1 e1' k1 n1 g1 => ?_
     obtain ⟨s', h9, a1, a2, A9, c9, d9⟩ := Acc.pushK A (fun _ => rfl) (UInt8.ofNat (16 * x + y)) (bytes := 1) e1' (by omega) (by decide) kH.nx
     refine .bnd a1 (.bnd a2 ?_)
     refine ih (i + 1) s' h9 (r ++ [UInt8.ofNat (16 * x + y)]) (by omega) (kH.keepsS c9 fun y ⟨a, ha, e⟩ => by rw [e]; exact (A.lt a ha).2) A9 ?_ (by simp [hr])
     rw [htake, unhex_snoc [a, b] (n := i) (by rw [List.length_take]; omega) hu]
     have : unhexL [a, b] = some [UInt8.ofNat (16 * x + y)] := by
      conv => lhs; unfold unhexL
      rw [da, db]; rfl
     rw [this]; rfl
 exact loop (s.size / 2) 0 ⟨none, 0, 0⟩ h [] (by omega) (.refl _ _) (Acc.nil _ _ _ _) (by simp [unhexL]) rfl
def idOfR (p l : List UInt8) : ByteArray × Int := if l.take p.length = p then (match unhexL (l.drop p.length) with
 | some r => if r.length = 32 then (bA r, 0) else (⟨#[]⟩, 5)
 | none => (⟨#[]⟩, 5)) else (⟨#[]⟩, 5)
def foldB : List UInt8 := [105, 110, 100, 101, 120, 47]
theorem idof_spec (D : CallF) (s : ByteArray) (hs : s.size ≤ 2000000) (hk : s.size + 10 ≤ k) (h : AHeap) : Gx.Wp (index_IdOf k D s h) fun z => z.1 = idOfR foldB (bl s) ∧ Keeps h z.2 := by
 simp only [index_IdOf]
 have hl : (bl s).length = s.size := rfl
 refine .bnd (cut_spec D s ⟨#[105, 110, 100, 101, 120, 47]⟩ h) ?_
 have pre : bl (⟨#[105, 110, 100, 101, 120, 47]⟩ : ByteArray) = foldB := rfl
 have psz : (⟨#[105, 110, 100, 101, 120, 47]⟩ : ByteArray).size = 6 := rfl
 rw [pre, psz]
 have fl : foldB.length = 6 := rfl
 by_cases c : (bl s).take 6 = foldB
 ·rw [if_pos c]
  refine .call (unhex_spec D (bA ((bl s).drop 6)) (by rw [bA_size, List.length_drop]; omega) (by rw [bA_size, List.length_drop]; omega) h) fun r2 ⟨q2, k2⟩ => Gx.Wp.jn fun j6 h6 => .ifn (by simp) ?_
  have eb : bl (bA ((bl s).drop 6)) = (bl s).drop 6 := rfl
  rw [eb] at q2
  rw [q2]
  unfold idOfR
  rw [fl, if_pos c]
  unfold unhexR
  cases e : unhexL ((bl s).drop 6) with
  | none =>
   refine .ifp (by simp) ?_
   rw [h6]
   exact .ifp rfl (.of ⟨rfl, k2⟩)
  | some r =>
   refine .ifn (by simp) (.bnd (isid_spec D (bA r) r2.2) ?_)
   rw [h6, bA_size]
   by_cases c2 : r.length = 32
   ·refine .ifn (by simp [c2]) (.of ⟨?_, k2⟩)
    dsimp only
    rw [if_pos c2]
   ·refine .ifp (by simp [c2]) (.of ⟨?_, k2⟩)
    dsimp only
    rw [if_neg c2]
 ·rw [if_neg c]
  refine .call (unhex_spec D s hs hk h) fun r2 ⟨q2, k2⟩ => Gx.Wp.jn fun j6 h6 => .ifp (by simp) ?_
  rw [h6]
  refine .ifp rfl (.of ⟨?_, k2⟩)
  unfold idOfR
  rw [fl, if_neg c]
theorem ridof_spec (D : CallF) (s : ByteArray) (hs : s.size ≤ 2000000) (hk : s.size + 10 ≤ k) (h : AHeap) : Gx.Wp (ref16_IdOf k D s h) fun z => z.1 = idOfR foldB (bl s) ∧ Keeps h z.2 := by
 simp only [ref16_IdOf]
 have hl : (bl s).length = s.size := rfl
 have fl : foldB.length = 6 := rfl
 refine Gx.Wp.jn fun j4 h4 => ?_
 by_cases c1 : s.size = 70
 rotate_left
 ·refine .ifp (by simp; omega) ?_
  rw [h4]
  refine .ifp rfl (.of ⟨?_, .refl _ _⟩)
  unfold idOfR
  rw [fl]
  by_cases c : (bl s).take 6 = foldB
  ·rw [if_pos c]
   cases e : unhexL ((bl s).drop 6) with
   | none => rfl
   | some r =>
    have := unhex_even e
    rw [List.length_drop] at this
    have h6 : 6 ≤ s.size := by
     have := congrArg List.length c
     rw [List.length_take, fl] at this; omega
    dsimp only
    rw [if_neg (by omega)]
  ·rw [if_neg c]
 ·have s1 := subS_of (s := s) (lo := none) (hi := some 6) (i := 0) (j := 6) rfl rfl (Nat.zero_le _) (by omega)
  rw [List.drop_zero] at s1
  refine .ifn (by simp; omega) (.bnd s1 ?_)
  rw [h4, beq_ba]
  by_cases c : (bl s).take 6 = foldB
  ·have e1 : (⟨⟨(bl s).take 6⟩⟩ : ByteArray) = ⟨#[105, 110, 100, 101, 120, 47]⟩ := bl_inj c
   have s2 := subS_of (s := s) (lo := some 6) (hi := none) (i := 6) (j := s.size) rfl rfl (by omega) (Nat.le_refl _)
   rw [List.take_of_length_le (by omega)] at s2
   refine .ifn (by simp [e1]) (.bnd s2 (.call (runhex_spec D (bA ((bl s).drop 6)) (by rw [bA_size, List.length_drop]; omega) (by rw [bA_size, List.length_drop]; omega) h) fun r2 ⟨q2, k2⟩ => ?_))
   have eb : bl (bA ((bl s).drop 6)) = (bl s).drop 6 := rfl
   rw [eb] at q2
   rw [q2]
   unfold idOfR
   rw [fl, if_pos c]
   unfold unhexR
   cases e : unhexL ((bl s).drop 6) with
   | none => exact .ifp (by simp) (.of ⟨rfl, k2⟩)
   | some r =>
    have := unhex_even e
    rw [List.length_drop] at this
    refine .ifn (by simp) (.of ⟨?_, k2⟩)
    dsimp only
    rw [if_pos (by omega)]
  ·have e1 : ¬ (⟨⟨(bl s).take 6⟩⟩ : ByteArray) = ⟨#[105, 110, 100, 101, 120, 47]⟩ := fun e => c (congrArg bl e)
   refine .ifp (by simp [e1]) (.of ⟨?_, .refl _ _⟩)
   unfold idOfR
   rw [fl, if_neg c]
theorem name_spec (D : CallF) (s : ByteArray) (hs : s.size ≤ 2000000) (hk : s.size + 10 ≤ k) (h : AHeap) : Gx.Wp (index_Name k D s h) fun z => z.1 = bA (foldB ++ hexL (bl s)) ∧ Keeps h z.2 := by
 simp only [index_Name]
 have hl : (bl s).length = s.size := rfl
 have hx := hexL_len (bl s)
 refine .call (hex_spec D s hs hk h) fun r ⟨q, kk⟩ => ?_
 rw [q]
 refine .ifp (by rw [bA_size]; show 6 + _ ≤ _; omega) (.of ⟨?_, kk⟩)
 rw [← bA_app]; rfl
theorem rname_spec (D : CallF) (s : ByteArray) (hs : s.size ≤ 2000000) (hk : s.size + 10 ≤ k) (h : AHeap) : Gx.Wp (ref16_Name k D s h) fun z => z.1 = bA (foldB ++ hexL (bl s)) ∧ Keeps h z.2 := by
 simp only [ref16_Name]
 have hl : (bl s).length = s.size := rfl
 have hx := hexL_len (bl s)
 refine .call (rhex_spec D s hs hk h) fun r ⟨q, kk⟩ => ?_
 rw [q]
 refine .ifp (by rw [bA_size]; show 6 + _ ≤ _; omega) (.of ⟨?_, kk⟩)
 rw [← bA_app]; rfl
end
end Gc
namespace Gc
open Go Gx
def RRd (H : AHeap) (rb : Nat) (st : Rd) : Prop := ∃ (S : ByteArray) (a : Nat) (e : Int), H.get rb = some (.cells [.string S, .int .i64 (a : Int), .int .i64 e] 101 true 0) ∧ S.size ≤ 1000000 ∧ a ≤ S.size ∧ (e = 0 ↔ st.isSome = true) ∧ ∀ l, st = some l → l = (bl S).drop a
section
variable {k rb : Nat} {H H' : AHeap} {st : Rd}
theorem RRd.chg {S : Nat → Prop} (P : RRd H rb st) (hr : rb < H.next) (c : Chg S H H') (hs : ¬ S rb) : RRd H' rb st := by
 obtain ⟨s, a, e, h1, h2⟩ := P
 exact ⟨s, a, e, c.got hr hs h1, h2⟩
theorem RRd.keeps (P : RRd H rb st) (hr : rb < H.next) (c : Keeps H H') : RRd H' rb st := P.chg hr c fun f => f
theorem RRd.ok {S : ByteArray} {a : Nat} (g : H.get rb = some (.cells [.string S, .int .i64 (a : Int), .int .i64 0] 101 true 0)) (hl : S.size ≤ 1000000) (ha : a ≤ S.size) : RRd H rb (some ((bl S).drop a)) := ⟨S, a, 0, g, hl, ha, by simp, fun l' h => by cases h; rfl⟩
theorem RRd.bad {S : ByteArray} {a : Nat} {e : Int} (g : H.get rb = some (.cells [.string S, .int .i64 (a : Int), .int .i64 e] 101 true 0)) (hl : S.size ≤ 1000000) (ha : a ≤ S.size) (he : e ≠ 0) : RRd H rb none := ⟨S, a, e, g, hl, ha, by simpa using he, fun l h => by cases h⟩
section
variable {S : ByteArray} {a : Nat} {e : Int}
theorem rr0 (g : H.get rb = some (.cells [.string S, .int .i64 (a : Int), .int .i64 e] 101 true 0)) : ldS ⟨rb, 0 + 0, none⟩ H = some S := by simp [ldS, AHeap.rd1, g, decS]
theorem rr1 (g : H.get rb = some (.cells [.string S, .int .i64 (a : Int), .int .i64 e] 101 true 0)) : ldI .i64 ⟨rb, 0 + 1, none⟩ H = some (a : Int) := sldI_at g rfl
theorem rr2 (g : H.get rb = some (.cells [.string S, .int .i64 (a : Int), .int .i64 e] 101 true 0)) : ldI .i64 ⟨rb, 0 + 2, none⟩ H = some e := sldI_at g rfl
theorem rrE (g : H.get rb = some (.cells [.string S, .int .i64 (a : Int), .int .i64 e] 101 true 0)) (e2 : Int) : st1 ⟨rb, 0 + 2, none⟩ (.int .i64 e2) H = some (H.set rb (.cells [.string S, .int .i64 (a : Int), .int .i64 e2] 101 true 0)) := st1_of g (by simp) rfl
theorem rrA (g : H.get rb = some (.cells [.string S, .int .i64 (a : Int), .int .i64 e] 101 true 0)) (a2 : Int) : st1 ⟨rb, 0 + 1, none⟩ (.int .i64 a2) H = some (H.set rb (.cells [.string S, .int .i64 a2, .int .i64 e] 101 true 0)) := st1_of g (by simp) rfl
end
theorem rrshort_spec (D : CallF) (hk : 20 ≤ k) (P : RRd H rb st) (most : Nat) :
  Gx.Wp (ref01_Reader_Short k D (some ⟨rb, 0, none⟩) (most : Int) H) fun z => z.1 = ((opS most st).1 : Int) ∧ RRd z.2 rb (opS most st).2 ∧ Chg (· = rb) H z.2 := by
 obtain ⟨S, a, e, g, hsz, ha, he, hl⟩ := P
 simp only [ref01_Reader_Short]
 refine .bnd rfl (.bnd (rr2 g) ?_)
 cases st with
 | none =>
  have hne : e ≠ 0 := fun q => by simpa using he.1 q
  exact .ifp (by simpa using hne) (.of ⟨rfl, RRd.bad g hsz ha hne, .refl _ _⟩)
 | some l =>
  have e0 : e = 0 := he.2 rfl
  subst e0
  have el : l = (bl S).drop a := hl l rfl
  refine .ifn (by simp) (Gx.Wp.jn fun j5 h5 => ?_)
  unfold ref01_Reader_Short_l0
  obtain ⟨bot, eb⟩ := iterK_of (fun _ _ _ _ _ => none) (ref01_Reader_Short_l0b k D j5) (show 9 + 1 ≤ k by omega)
  rw [eb]
  have hS : (bl S).length = S.size := rfl
  have fail : ∀ e2 : Int, e2 ≠ 0 → opS most (some l) = (0, none) → Gx.Wp ((some (⟨rb, 0, none⟩ : Addr)).bind fun p18 => (st1 (⟨p18.block, p18.off + 2, none⟩ : Addr) (.int .i64 e2) H).bind fun h19 => some ((0 : Int), h19)) fun z => z.1 = ((opS most (some l)).1 : Int) ∧ RRd z.2 rb (opS most (some l)).2 ∧ Chg (· = rb) H z.2 := fun e2 hne ho => by
   rw [ho]
   exact .bnd rfl (.bnd (rrE g e2) (.of ⟨rfl, RRd.bad (sset_get _ _ _) hsz ha hne, Chg.set (.inr rfl)⟩))
  have loop : ∀ (d i n : Nat), i + d = 9 → n < 128 ^ i → ((lebQ (9 - i) (decide (i = 0)) ((bl S).drop (a + i))).map fun p => (n + p.1 * 128 ^ i, p.2)) = lebQ 9 true l →
    Gx.Wp (iterK bot (d + 1) (ref01_Reader_Short_l0b k D j5) (some ⟨rb, 0, none⟩) (most : Int) (n : Int) (i : Int) H) fun z => z.1 = ((opS most (some l)).1 : Int) ∧ RRd z.2 rb (opS most (some l)).2 ∧ Chg (· = rb) H z.2 := fun d => by
   induction d with
   | zero =>
    intro i n hd hn hq
    obtain rfl : i = 9 := by omega
    rw [iterK_s]; simp only [ref01_Reader_Short_l0b]
    refine .ifn (by decide) ?_
    rw [h5]
    refine fail 3 (by decide) ?_
    have : lebQ 9 true l = none := by rw [← hq]; rfl
    simp [opS, pS, this]
   | succ d ih =>
    intro i n hd hn hq
    rw [iterK_s]; simp only [ref01_Reader_Short_l0b]
    obtain ⟨ee, he⟩ : ∃ ee, 9 - i = ee + 1 := ⟨8 - i, by omega⟩
    have he2 : 9 - (i + 1) = ee := by omega
    have ea : IntKind.wrap .i64 ((a : Int) + (i : Int)) = ((a + i : Nat) : Int) := by rw [Gx.w64 _ (by omega)]; omega
    refine .ifp (by simp; omega) (.bnd rfl (.bnd (rr1 g) (.bnd rfl (.bnd (rr0 g) ?_))))
    rw [ea]
    by_cases c0 : S.size ≤ a + i
    ·refine .ifp (by simp; omega) (fail 10 (by decide) ?_)
     have : lebQ 9 true l = none := by
      rw [← hq, List.drop_of_length_le (by omega), he]
      simp [lebQ]
     simp [opS, pS, this]
    obtain ⟨c, hc⟩ := isome (l := bl S) (i := a + i) (by omega)
    have hcl := c.toNat_lt
    have e7 : IntKind.wrap .i64 (7 * (i : Int)) = ((7 * i : Nat) : Int) := by rw [Gx.w64 _ (by omega)]; omega
    have ewc : IntKind.wrap .i64 (c.toNat : Int) = (c.toNat : Int) := Gx.w64 _ (by omega)
    have hpi : 2 ^ (7 * i) ≤ 2 ^ 56 := Nat.pow_le_pow_right (by decide) (by omega)
    rw [p128] at hn
    have hm : (c.toNat % 128) * 2 ^ (7 * i) ≤ 127 * 2 ^ 56 := Nat.mul_le_mul (by omega) hpi
    have h56 : (2 : Nat) ^ 56 = 72057594037927936 := by decide
    have hsum : n + c.toNat % 128 * 2 ^ (7 * i) < 128 ^ (i + 1) := by
     rw [p128, show 7 * (i + 1) = 7 + 7 * i by omega, Nat.pow_add]
     have : c.toNat % 128 + 1 ≤ 2 ^ 7 := by omega
     have := Nat.mul_le_mul_right (2 ^ (7 * i)) this
     rw [Nat.add_mul] at this
     omega
    have et : IntKind.wrap .i64 ((n : Int) + IntKind.wrap .i64 ((Int.tmod (IntKind.wrap .i64 (c.toNat : Int)) 128) * 2 ^ (min (IntKind.wrap .i64 (7 * (i : Int))).toNat (IntKind.bits .i64)))) = ((n + c.toNat % 128 * 2 ^ (7 * i) : Nat) : Int) := by
     rw [ewc, e7, Int.toNat_natCast, show min (7 * i) (IntKind.bits .i64) = 7 * i from Nat.min_eq_left (by show 7 * i ≤ 64; omega)]
     have tm : Int.tmod (c.toNat : Int) 128 = ((c.toNat % 128 : Nat) : Int) := by rw [Int.tmod_eq_emod_of_nonneg (by omega)]; omega
     have e2 : (((c.toNat % 128 : Nat) : Int) * 2 ^ (7 * i)) = ((c.toNat % 128 * 2 ^ (7 * i) : Nat) : Int) := by rw [Int.natCast_mul, Int.natCast_pow]; rfl
     rw [tm, e2, Gx.w64 ((c.toNat % 128 * 2 ^ (7 * i) : Nat) : Int) (by omega), Gx.w64 _ (by omega)]; omega
    refine .ifn (by simp; omega) (.bnd rfl (.bnd (rr0 g) (.bnd rfl (.bnd (rr1 g) ?_))))
    rw [ea]
    refine .bnd (idxS_of hc) (.ifp (by rw [e7]; omega) ?_)
    rw [et, ewc]
    rw [he, dropc hc] at hq
    by_cases c1 : 128 ≤ c.toNat
    ·refine .ifn (by simp; omega) ?_
     rw [Gx.w1 (by omega)]
     refine ih (i + 1) (n + c.toNat % 128 * 2 ^ (7 * i)) (by omega) hsum ?_
     have eq : lebQ (ee + 1) (decide (i = 0)) (c :: (bl S).drop (a + i + 1)) = (lebQ ee false ((bl S).drop (a + i + 1))).map fun p => (c.toNat - 128 + 128 * p.1, p.2) := by
      conv => lhs; unfold lebQ
      rw [if_pos c1]
     rw [eq] at hq
     rw [he2, show decide (i + 1 = 0) = false by simp, ← Nat.add_assoc, ← hq, Option.map_map]
     congr 1
     funext p
     simp only [Function.comp, Prod.mk.injEq, and_true]
     rw [← p128, show c.toNat % 128 = c.toNat - 128 by omega, Nat.pow_succ, Nat.add_mul]
     have : p.1 * (128 ^ i * 128) = 128 * p.1 * 128 ^ i := by rw [← Nat.mul_assoc, Nat.mul_comm _ 128, ← Nat.mul_assoc]
     omega
    ·have e8 : c.toNat % 128 = c.toNat := Nat.mod_eq_of_lt (by omega)
     have eq : lebQ (ee + 1) (decide (i = 0)) (c :: (bl S).drop (a + i + 1)) = if c.toNat = 0 ∧ decide (i = 0) = false then none else some (c.toNat, (bl S).drop (a + i + 1)) := by
      conv => lhs; unfold lebQ
      rw [if_neg c1]
     rw [eq] at hq
     rw [e8]
     refine .ifp (by simp; omega) (Gx.Wp.jn fun j32 h32 => ?_)
     have good : (c.toNat = 0 → i = 0) → Gx.Wp (j32 (some ⟨rb, 0, none⟩) (most : Int) ((n + c.toNat * 2 ^ (7 * i) : Nat) : Int) (i : Int) false H) fun z => z.1 = ((opS most (some l)).1 : Int) ∧ RRd z.2 rb (opS most (some l)).2 ∧ Chg (· = rb) H z.2 := fun hz => by
      rw [if_neg (fun q => by have := hz q.1; simp [this] at q)] at hq
      have hq' : lebQ 9 true l = some (n + c.toNat * 2 ^ (7 * i), (bl S).drop (a + i + 1)) := by rw [← hq, p128]; rfl
      obtain ⟨v, ev⟩ : ∃ v, v = n + c.toNat * 2 ^ (7 * i) := ⟨_, rfl⟩
      rw [← ev] at hq' ⊢
      rw [h32]
      refine .ifn (by decide) ?_
      by_cases c2 : most < v
      ·refine .ifp (by simp; omega) (fail 2 (by decide) ?_)
       simp [opS, pS, hq', c2]
      ·have ho : opS most (some l) = (v, some ((bl S).drop (a + i + 1))) := by simp [opS, pS, hq', c2]
       rw [ho]
       have e3 : IntKind.wrap .i64 ((a : Int) + IntKind.wrap .i64 ((i : Int) + 1)) = ((a + i + 1 : Nat) : Int) := by
        rw [Gx.w1 (by omega), Gx.w64 _ (by omega)]; omega
       refine .ifn (by simp; omega) (.bnd rfl (.bnd (rr1 g) ?_))
       rw [e3]
       exact .bnd rfl (.bnd (rrA g _) (.of ⟨rfl, RRd.ok (sset_get _ _ _) hsz (by omega), Chg.set (.inr rfl)⟩))
     by_cases c2 : c.toNat = 0
     ·refine .ifp (by simp [c2]) ?_
      by_cases c3 : i = 0
      ·rw [decide_eq_false (by omega)]
       exact good fun _ => c3
      ·rw [decide_eq_true (by omega), h32]
       refine .ifp rfl (fail 3 (by decide) ?_)
       have : lebQ 9 true l = none := by rw [← hq, if_pos ⟨c2, by simp [c3]⟩]; rfl
       simp [opS, pS, this]
     ·exact .ifn (by simp; omega) (good fun q => absurd q c2)
  refine loop 9 0 0 (by omega) (by decide) ?_
  rw [el]
  simp
end
end Gc
namespace Gc
open Go Gx
section
variable {k rb : Nat} {H H' : AHeap} {st : Rd}
theorem rleft_spec (D : CallF) {S : ByteArray} {a : Nat} {e : Int} (g : H.get rb = some (.cells [.string S, .int .i64 (a : Int), .int .i64 e] 101 true 0)) (ha : a ≤ S.size) (hS : S.size ≤ 1000000) : ref01_Reader_Left k D (some ⟨rb, 0, none⟩) H = some (((S.size - a : Nat) : Int), H) := by
 simp only [ref01_Reader_Left]
 refine bnd rfl (bnd (rr0 g) (bnd rfl (bnd (rr1 g) ?_)))
 rw [Gx.w64 _ (by omega)]
 congr 2
 omega
theorem rrbytes_spec (D : CallF) (P : RRd H rb st) (n : Nat) (hn : n ≤ 1000000) :
  Gx.Wp (ref01_Reader_Bytes k D (some ⟨rb, 0, none⟩) (n : Int) H) fun z => z.1 = (opB n st).1 ∧ RRd z.2 rb (opB n st).2 ∧ Chg (· = rb) H z.2 := by
 obtain ⟨S, a, e, g, hsz, ha, he, hl⟩ := P
 simp only [ref01_Reader_Bytes]
 have hS : (bl S).length = S.size := rfl
 refine .bnd rfl (.bnd (rr2 g) ?_)
 cases st with
 | none =>
  have hne : e ≠ 0 := fun q => by simpa using he.1 q
  exact .ifp (by simpa using hne) (.of ⟨rfl, RRd.bad g hsz ha hne, .refl _ _⟩)
 | some l =>
  have e0 : e = 0 := he.2 rfl
  subst e0
  have el : l = (bl S).drop a := hl l rfl
  have ell : l.length = S.size - a := by rw [el, List.length_drop]; omega
  refine .ifn (by simp) (.ifn (by simp) (.bnd (rleft_spec D g ha hsz) ?_))
  by_cases c : S.size - a < n
  ·have ho : opB n (some l) = (⟨#[]⟩, none) := by simp [opB, show ¬ n ≤ l.length by omega]
   rw [ho]
   exact .ifp (by simp; omega) (.bnd rfl (.bnd (rrE g 10) (.of ⟨rfl, RRd.bad (sset_get _ _ _) hsz ha (by decide), Chg.set (.inr rfl)⟩)))
  ·rw [opB_some (show n ≤ l.length by omega)]
   have e1 : IntKind.wrap .i64 ((a : Int) + (n : Int)) = ((a + n : Nat) : Int) := by rw [Gx.w64 _ (by omega)]; omega
   have e2 : IntKind.wrap .i64 (((a + n : Nat) : Int) - (n : Int)) = (a : Int) := by rw [Gx.w64 _ (by omega)]; omega
   refine .ifn (by simp; omega) (.bnd rfl (.bnd (rr1 g) ?_))
   rw [e1]
   have g2 : (H.set rb (.cells [.string S, .int .i64 ((a + n : Nat) : Int), .int .i64 0] 101 true 0)).get rb = some (.cells [.string S, .int .i64 ((a + n : Nat) : Int), .int .i64 0] 101 true 0) := sset_get _ _ _
   refine .bnd rfl (.bnd (rrA g _) (.bnd rfl (.bnd (rr0 g2) (.bnd rfl (.bnd (rr1 g2) (.bnd rfl (.bnd (rr1 g2) ?_)))))))
   rw [e2]
   have s1 := subS_of (s := S) (lo := some (a : Int)) (hi := some ((a + n : Nat) : Int)) (i := a) (j := a + n) rfl rfl (by omega) (by omega)
   refine .bnd s1 (.of ⟨?_, ?_, Chg.set (.inr rfl)⟩)
   ·rw [el]
    show bA _ = bA _
    rw [List.drop_take, show a + n - a = n by omega]
   ·have : l.drop n = (bl S).drop (a + n) := by rw [el, List.drop_drop]
    show RRd _ rb (some (l.drop n))
    rw [this]
    exact RRd.ok g2 hsz (by omega)
theorem rrfixed_spec (D : CallF) (hk : 20 ≤ k) (P : RRd H rb st) :
  Gx.Wp (ref01_Reader_Fixed k D (some ⟨rb, 0, none⟩) 1 H) fun z => z.1 = ((opF st).1 : Int) ∧ RRd z.2 rb (opF st).2 ∧ Chg (· = rb) H z.2 := by
 have P0 := P
 obtain ⟨S, a, e, g, hsz, ha, he, hl⟩ := P
 simp only [ref01_Reader_Fixed]
 refine Gx.Wp.jn fun j4 h4 => Gx.Wp.jn fun j11 h11 => .bnd rfl (.bnd (rr2 g) ?_)
 have next : Gx.Wp (j11 (some ⟨rb, 0, none⟩) 1 false H) fun z => z.1 = ((opF st).1 : Int) ∧ RRd z.2 rb (opF st).2 ∧ Chg (· = rb) H z.2 := by
  rw [h11]
  refine .ifn (by decide) ?_
  rw [h4]
  refine .call (rrbytes_spec D P0 1 (by decide)) fun r ⟨q1, q2, q3⟩ => ?_
  have ho : (r.1 = ⟨#[]⟩ ∧ opF st = (0, none) ∧ (opB 1 st).2 = none) ∨ ∃ c l, r.1 = bA [c] ∧ opF st = (c.toNat, some l) ∧ (opB 1 st).2 = some l := by
   rw [q1]
   cases st with
   | none => exact .inl ⟨rfl, rfl, rfl⟩
   | some l =>
    cases l with
    | nil => exact .inl ⟨by simp [opB], rfl, by simp [opB]⟩
    | cons c l => exact .inr ⟨c, l, by rw [opB_some (by simp)]; rfl, rfl, by rw [opB_some (by simp)]; rfl⟩
  have num : ref01_Num k D r.1 r.2 = some (((opF st).1 : Int), r.2) := by
   simp only [ref01_Num]
   unfold ref01_Num_l0
   simp only [joinK]
   rcases ho with ⟨e1, e2, _⟩ | ⟨c, l, e1, e2, _⟩
   ·rw [e1, e2]
    obtain ⟨bot, eb⟩ := iterK_of (fun _ _ _ _ => none) (ref01_Num_l0b k D fun (n1 : Int) (h2 : AHeap) => some (n1, h2)) (show 0 + 1 ≤ k by omega)
    rw [eb, iterK_s]; simp only [ref01_Num_l0b]
    rw [if_neg (by decide)]; rfl
   ·rw [e1, e2]
    obtain ⟨bot, eb⟩ := iterK_of (fun _ _ _ _ => none) (ref01_Num_l0b k D fun (n1 : Int) (h2 : AHeap) => some (n1, h2)) (show 1 + 1 ≤ k by omega)
    have hc := c.toNat_lt
    rw [eb, iterK_s]; simp only [ref01_Num_l0b]
    refine ifp (by rw [bA_size]; simp) (bnd (show Gx.idxS (bA [c]) 0 = some (c.toNat : Int) from idxS_of (s := bA [c]) (i := 0) rfl) ?_)
    have et : IntKind.wrap .i64 (IntKind.wrap .i64 (0 * 256) + IntKind.wrap .i64 (c.toNat : Int)) = (c.toNat : Int) := by
     rw [Gx.w64 (0 * 256) (by decide), Gx.w64 (c.toNat : Int) (by omega), Gx.w64 _ (by omega)]; omega
    rw [et, show IntKind.wrap .i64 (0 + 1) = 1 from rfl, iterK_s]
    simp only [ref01_Num_l0b]
    rw [if_neg (by rw [bA_size]; simp)]
  refine .bnd num (.of ⟨rfl, ?_, q3⟩)
  rcases ho with ⟨_, e2, e3⟩ | ⟨c, l, _, e2, e3⟩
  ·rw [e2, ← e3]; exact q2
  ·rw [e2, ← e3]; exact q2
 by_cases c : e = 0
 ·refine .ifp (by simp [c]) (.ifn (by decide) ?_)
  exact next
 ·exact .ifn (by simpa using c) next
theorem rrend_spec (D : CallF) (P : RRd H rb st) : Gx.Wp (ref01_Reader_End k D (some ⟨rb, 0, none⟩) H) fun z => (z.1 = 0 ↔ st = some []) ∧ Chg (· = rb) H z.2 := by
 obtain ⟨S, a, e, g, hsz, ha, he, hl⟩ := P
 simp only [ref01_Reader_End]
 have hS : (bl S).length = S.size := rfl
 refine Gx.Wp.jn fun j3 h3 => .bnd (rleft_spec D g ha hsz) ?_
 by_cases c : 0 < S.size - a
 ·refine .ifp (by simp; omega) ?_
  simp only [ref01_Reader_Fail]
  by_cases c2 : e = 0
  ·refine .call (P := fun z => z.2.get rb = some (.cells [.string S, .int .i64 (a : Int), .int .i64 3] 101 true 0) ∧ Chg (· = rb) H z.2) (.bnd rfl (.bnd (rr2 g) (.ifp (by simp [c2]) (.bnd rfl (.bnd (rrE g 3) (.of ⟨sset_get _ _ _, Chg.set (S := (· = rb)) (.inr rfl)⟩)))))) fun z ⟨z1, z2⟩ => ?_
   rw [h3]
   refine .bnd rfl (.bnd (rr2 z1) (.of ⟨⟨fun q => absurd (show (3 : Int) = 0 from q) (by decide), fun q => ?_⟩, z2⟩))
   have := hl [] q
   have := congrArg List.length this
   rw [List.length_drop] at this
   simp at this; omega
  ·refine .call (P := fun z => z.2 = H) (.bnd rfl (.bnd (rr2 g) (.ifn (by simpa using c2) (.of rfl)))) fun z z1 => ?_
   rw [h3, z1]
   refine .bnd rfl (.bnd (rr2 g) (.of ⟨⟨fun q => absurd q c2, fun q => ?_⟩, .refl _ _⟩))
   exact he.2 (by rw [q]; rfl)
 ·refine .ifn (by simp; omega) ?_
  rw [h3]
  refine .bnd rfl (.bnd (rr2 g) (.of ⟨⟨fun q => ?_, fun q => he.2 (by rw [q]; rfl)⟩, .refl _ _⟩))
  cases st with
  | none => simpa using he.1 q
  | some l =>
   have : l = [] := by rw [hl l rfl]; exact List.drop_of_length_le (by omega)
   rw [this]
theorem RRd.err (P : RRd H rb st) : ∃ e : Int, ldI .i64 ⟨rb, 0 + 2, none⟩ H = some e ∧ (e = 0 ↔ st.isSome = true) := by
 obtain ⟨S, a, e, g, hsz, ha, he, hl⟩ := P
 exact ⟨e, rr2 g, he⟩
end
end Gc
namespace Gc
open Go Gx
section
variable {k rb fb : Nat} {h H H' : AHeap} {st : Rd}
theorem opS_none {st : Rd} {n most : Nat} (e : opS most st = (n, none)) : n = 0 := by
 unfold opS at e
 cases e2 : st.bind (pS most) with
 | none => rw [e2] at e; cases e; rfl
 | some p => rw [e2] at e; cases e
theorem opS_le {st : Rd} {n most : Nat} {s : Rd} (e : opS most st = (n, s)) : n ≤ most := by
 cases s with
 | none => rw [opS_none e]; exact Nat.zero_le _
 | some l =>
  have := (opS_inv (s := st) (most := most) (l := l) (by rw [e])).2
  rw [e] at this; exact this
def FB (H : AHeap) (fb : Nat) (o q : Slc) : Prop := H.get fb = some (.cells [.slice o.a o.len o.cap, .slice q.a q.len q.cap] 28 true 0)
theorem rl1_spec {yb : Nat} (D : CallF) (_hk : 5000 ≤ k) (hr : rb < h.next) (hf : fb < h.next) (hrf : rb ≠ fb) (j19) {Q : ((Slc × Slc) × Int) × AHeap → Prop} {n : Nat} (hn : n ≤ 4096) (st0 : Rd) {q : Slc} (bot)
  (hj : ∀ H o ys, RRd H rb (runL (opB 32) n st0).2 → Acc encS 9 h.next H o ys → ((runL (opB 32) n st0).2 ≠ none → ys = (runL (opB 32) n st0).1) → FB H fb o q → Chg (fun y => y = rb ∨ y = fb) h H → Gx.Wp (j19 (some ⟨yb, 0, none⟩) (some ⟨rb, 0, none⟩) (some ⟨fb, 0, none⟩) H) Q) :
  ∀ (d i : Nat) (H : AHeap) (o : Slc) (ys : List ByteArray) (st : Rd), i + d = n → ys.length ≤ i → RRd H rb st → Acc encS 9 h.next H o ys → FB H fb o q → Chg (fun y => y = rb ∨ y = fb) h H → ((runL (opB 32) d st).2 = (runL (opB 32) n st0).2 ∧ (st ≠ none → (runL (opB 32) n st0).2 ≠ none → ys ++ (runL (opB 32) d st).1 = (runL (opB 32) n st0).1)) →
   Gx.Wp (iterK bot (d + 1) (ref16_Decode_l1b k D j19) (some ⟨yb, 0, none⟩) (some ⟨rb, 0, none⟩) (some ⟨fb, 0, none⟩) (n : Int) (i : Int) H) Q := by
 intro d
 induction d with
 | zero =>
  intro i H o ys st hd hy P A F c hq
  rw [iterK_s]; simp only [ref16_Decode_l1b]
  refine Gx.Wp.jn fun j102 h102 => .ifn (by simp; omega) ?_
  rw [h102]
  refine .ifn (by decide) (hj H o ys (by rw [← hq.1]; exact P) A (fun z => ?_) F c)
  rw [← hq.1] at z
  have := hq.2 z (by rw [← hq.1]; exact z)
  rw [← this]; exact (List.append_nil _).symm
 | succ d ih =>
  intro i H o ys st hd hy P A F c hq
  rw [iterK_s]; simp only [ref16_Decode_l1b]
  obtain ⟨e, le, he⟩ := P.err
  have nx := c.nx
  refine Gx.Wp.jn fun j102 h102 => .ifp (by simp; omega) (.bnd rfl (.bnd le ?_))
  rw [h102]
  cases st with
  | none =>
   have hne : ¬ e = 0 := fun z => by simpa using he.1 z
   have e1 : (runL (opB 32) (d + 1) none).2 = none := by simp [runL, opB]
   rw [e1] at hq
   refine .ifn (by simpa using hne) (hj H o ys (by rw [← hq.1]; exact P) A (fun z => absurd hq.1.symm z) F c)
  | some l =>
   have e0 : e = 0 := he.2 rfl
   refine .ifp (by simp [e0]) (.call (rrbytes_spec D P 32 (by decide)) fun r ⟨q1, P1, c1⟩ => ?_)
   have nx1 := c1.nx
   have ce : Chg (fun y => y = rb ∨ y = fb) h r.2 := Chg.trans c (c1.wk fun y _ e => .inl e)
   have F1 : FB r.2 fb o q := c1.got (by omega) (by omega) F
   have A1 := A.chg c1 fun a ha z => by have := (A.lt a ha).2; omega
   rw [q1]
   obtain ⟨x, s2, e2⟩ : ∃ x s2, opB 32 (some l) = (x, s2) := ⟨_, _, rfl⟩
   rw [e2] at P1 ⊢
   dsimp only at P1 ⊢
   refine Wp.newE fun h104 e104 k104 n104 g104 => ?_
   have F104 : FB h104 fb o q := k104.got (by omega) F1
   obtain ⟨s', h9, a1, a2, A9, c9, d9⟩ := Acc.pushK A1 (fun _ => rfl) x (bytes := 16) e104 (by omega) (by decide) (by omega)
   have nx9 := c9.nx
   have hc9 : ∀ y, ofS o y → h.next ≤ y := fun y ⟨a, ha, e⟩ => by rw [e]; exact (A1.lt a ha).2
   refine .bnd rfl (.bnd (sldL_at (o := 0 + 0) F104 rfl) (.gp (fun HH hH => ?_) (.bnd a1 (.bnd a2 ?_))))
   ·simp only [List.mem_cons, List.not_mem_nil, or_false] at hH
    dsimp only
    rcases hH with z | z
    ·rw [z, sldL_at (sp := none) (o := 0 + 0) F1 rfl]; rfl
    ·rw [z, sldL_at (sp := none) (o := 0 + 0) F rfl]; rfl
   have F9 : FB h9 fb o q := c9.got (by omega) (fun z => by have := hc9 _ z; omega) F1
   have F9' : h9.get fb = some (.cells [.slice o.a o.len o.cap, .slice q.a q.len q.cap] 28 true 0) := F9
   have P9 := P1.chg (by omega) c9 fun z => by have := hc9 _ z; omega
   refine .bnd rfl (Wp.st F9' (by simp) rfl fun h112 c112 n112 g112 => ?_)
   rw [Gx.w1 (by omega)]
   have P112 := P9.chg (by omega) c112 fun z => hrf z
   have A112 := A9.chg c112 fun a ha z => by have := (A9.lt a ha).2; have z' : a.block = fb := z; omega
   have c112' : Chg (fun y => y = rb ∨ y = fb) h h112 := Chg.beh (Chg.beh ce c9 fun y hy z => by have := hc9 y z; omega) c112 fun y _ z => .inr z
   refine ih (i + 1) h112 s' (ys ++ [x]) s2 (by omega) (by simp; omega) P112 A112 g112 c112' ?_
   cases s2 with
   | none =>
    rw [run_stop e2] at hq
    refine ⟨?_, fun z => absurd rfl z⟩
    rw [← hq.1]
    cases d with
    | zero => rfl
    | succ d => simp [runL, opB]
   | some m =>
    rw [run_cons e2] at hq
    refine ⟨hq.1, fun _ z => ?_⟩
    have := hq.2 (by simp) z
    rw [← this]; simp
theorem rl0_spec {yb : Nat} (D : CallF) (hk : 5000 ≤ k) (hr : rb < h.next) (hf : fb < h.next) (hrf : rb ≠ fb) (j25) {Q : ((Slc × Slc) × Int) × AHeap → Prop} {n : Nat} (hn : n ≤ 4096) (st0 : Rd) {o : Slc} (bot)
  (hj : ∀ H q ys, RRd H rb (runL opI n st0).2 → AccW 6 itC 57 h.next H q ys → ((runL opI n st0).2 ≠ none → ys = (runL opI n st0).1) → FB H fb o q → Chg (fun y => y = rb ∨ y = fb) h H → Gx.Wp (j25 (some ⟨yb, 0, none⟩) (some ⟨rb, 0, none⟩) (some ⟨fb, 0, none⟩) H) Q) :
  ∀ (d i : Nat) (H : AHeap) (q : Slc) (ys : List It) (st : Rd), i + d = n → ys.length ≤ i → RRd H rb st → AccW 6 itC 57 h.next H q ys → FB H fb o q → Chg (fun y => y = rb ∨ y = fb) h H → ((runL opI d st).2 = (runL opI n st0).2 ∧ (st ≠ none → (runL opI n st0).2 ≠ none → ys ++ (runL opI d st).1 = (runL opI n st0).1)) →
   Gx.Wp (iterK bot (d + 1) (ref16_Decode_l0b k D j25) (some ⟨yb, 0, none⟩) (some ⟨rb, 0, none⟩) (some ⟨fb, 0, none⟩) (n : Int) (i : Int) H) Q := by
 intro d
 induction d with
 | zero =>
  intro i H o ys st hd hy P A F c hq
  rw [iterK_s]; simp only [ref16_Decode_l0b]
  refine Gx.Wp.jn fun j63 h63 => .ifn (by simp; omega) ?_
  rw [h63]
  refine .ifn (by decide) (hj H o ys (by rw [← hq.1]; exact P) A (fun z => ?_) F c)
  rw [← hq.1] at z
  have := hq.2 z (by rw [← hq.1]; exact z)
  rw [← this]; exact (List.append_nil _).symm
 | succ d ih =>
  intro i H q ys st hd hy P A F c hq
  rw [iterK_s]; simp only [ref16_Decode_l0b]
  obtain ⟨e, le, he⟩ := P.err
  have nx := c.nx
  refine Gx.Wp.jn fun j63 h63 => .ifp (by simp; omega) (.bnd rfl (.bnd le ?_))
  rw [h63]
  cases st with
  | none =>
   have hne : ¬ e = 0 := fun z => by simpa using he.1 z
   have e1 : (runL opI (d + 1) none).2 = none := by simp [runL, opI, opB, opF, opS]
   rw [e1] at hq
   refine .ifn (by simpa using hne) (hj H q ys (by rw [← hq.1]; exact P) A (fun z => absurd hq.1.symm z) F c)
  | some l =>
   have e0 : e = 0 := he.2 rfl
   obtain ⟨xa, sa, ea⟩ : ∃ a sa, opB 32 (some l) = (a, sa) := ⟨_, _, rfl⟩
   obtain ⟨xb, sb, eb⟩ : ∃ b sb, opB 32 sa = (b, sb) := ⟨_, _, rfl⟩
   obtain ⟨xc, sc, ec⟩ : ∃ c sc, opF sb = (c, sc) := ⟨_, _, rfl⟩
   obtain ⟨xd, sd, ed⟩ : ∃ d sd, opS 65536 sc = (d, sd) := ⟨_, _, rfl⟩
   obtain ⟨xe, se, ee⟩ : ∃ e se, opS 65536 sd = (e, se) := ⟨_, _, rfl⟩
   obtain ⟨xf, sf, ef⟩ : ∃ f sf, opS 65536 se = (f, sf) := ⟨_, _, rfl⟩
   have eI : opI (some l) = ((xa, xb, (xc : Int), (xd : Int), (xe : Int), (xf : Int)), sf) := by
    unfold opI
    simp only [ea, eb, ec, ed, ee, ef]
   refine .ifp (by simp [e0]) (.call (rrbytes_spec D P 32 (by decide)) fun r2 ⟨q2, P2, c2⟩ => ?_)
   rw [ea] at q2 P2
   rw [q2]
   have n2 := c2.nx
   have F2 : FB r2.2 fb o q := c2.got (by omega) (by omega) F
   have A2 := A.chg c2 fun a ha z => by have := (A.lt a ha).2; omega
   have cc2 : Chg (fun y => y = rb ∨ y = fb) h r2.2 := Chg.trans c (c2.wk fun y _ e => .inl e)
   refine Wp.newE fun h3 e3 k3 n3 g3 => Wp.stL g3 rfl rfl rfl (by decide) fun h4 c4 n4 g4 => ?_
   have k4 : Keeps r2.2 h4 := k3.keepsS c4 fun y hy => by subst hy; omega
   have P4 := P2.keeps (by omega) k4
   have F4 : FB h4 fb o q := k4.got (by omega) F2
   have A4 := A2.keeps k4
   have cc4 : Chg (fun y => y = rb ∨ y = fb) h h4 := Chg.trans cc2 (Chg.keeps k4)
   have stepR : ∀ {H1 H2 : AHeap}, Chg (· = rb) H1 H2 → r2.2.next < H1.next → FB H1 fb o q → AccW 6 itC 57 h.next H1 q ys → Chg (fun y => y = rb ∨ y = fb) h H1 → (∀ cs, H1.get r2.2.next = some cs → H2.get r2.2.next = some cs) ∧ FB H2 fb o q ∧ AccW 6 itC 57 h.next H2 q ys ∧ Chg (fun y => y = rb ∨ y = fb) h H2 ∧ H1.next ≤ H2.next := fun cR hl F A cc =>
    ⟨fun cs g => cR.got hl (by omega) g, cR.got (by omega) (by omega) F, A.chg cR fun a ha z => by have := (A.lt a ha).2; omega, Chg.trans cc (cR.wk fun y _ e => .inl e), cR.nx⟩
   have stepS : ∀ {H1 H2 : AHeap} {s : Rd}, Chg (· = r2.2.next) H1 H2 → r2.2.next < H1.next → RRd H1 rb s → FB H1 fb o q → AccW 6 itC 57 h.next H1 q ys → Chg (fun y => y = rb ∨ y = fb) h H1 → (∀ a, q.a = some a → a.block ≠ r2.2.next) → RRd H2 rb s ∧ FB H2 fb o q ∧ AccW 6 itC 57 h.next H2 q ys ∧ Chg (fun y => y = rb ∨ y = fb) h H2 := fun cS hl P F A cc hq =>
    ⟨P.chg (by omega) cS (by omega), cS.got (by omega) (by omega) F, A.chg cS fun a ha z => hq a ha z, Chg.beh cc cS fun y hy z => by omega⟩
   have hqb : ∀ a, q.a = some a → a.block ≠ r2.2.next := fun a ha z => by have := (A2.lt a ha).1; omega
   have hl4 : r2.2.next < h4.next := by omega
   refine .call (rrbytes_spec D P4 32 (by decide)) fun r5 ⟨q5, P5, c5⟩ => ?_
   rw [eb] at q5 P5
   rw [q5]
   obtain ⟨gg5, F5, A5, cc5, n5⟩ := stepR c5 hl4 F4 A4 cc4
   refine Wp.st (gg5 _ g4) (by simp) rfl fun h6 c6 n6 g6 => ?_
   obtain ⟨P6, F6, A6, cc6⟩ := stepS c6 (by omega) P5 F5 A5 cc5 hqb
   refine .call (rrfixed_spec D (by omega) P6) fun r7 ⟨q7, P7, c7⟩ => ?_
   rw [ec] at q7 P7
   rw [q7]
   obtain ⟨gg7, F7, A7, cc7, n7⟩ := stepR c7 (by omega) F6 A6 cc6
   refine Wp.st (gg7 _ g6) (by simp) rfl fun h8 c8 n8 g8 => ?_
   obtain ⟨P8, F8, A8, cc8⟩ := stepS c8 (by omega) P7 F7 A7 cc7 hqb
   refine .call (rrshort_spec D (by omega) P8 65536) fun r9 ⟨q9, P9, c9⟩ => ?_
   rw [ed] at q9 P9
   rw [q9]
   obtain ⟨gg9, F9, A9, cc9, n9⟩ := stepR c9 (by omega) F8 A8 cc8
   refine Wp.st (gg9 _ g8) (by simp) rfl fun h10 c10 n10 g10 => ?_
   obtain ⟨P10, F10, A10, cc10⟩ := stepS c10 (by omega) P9 F9 A9 cc9 hqb
   refine .call (rrshort_spec D (by omega) P10 65536) fun r11 ⟨q11, P11, c11⟩ => ?_
   rw [ee] at q11 P11
   rw [q11]
   obtain ⟨gg11, F11, A11, cc11, n11⟩ := stepR c11 (by omega) F10 A10 cc10
   refine Wp.st (gg11 _ g10) (by simp) rfl fun h12 c12 n12 g12 => ?_
   obtain ⟨P12, F12, A12, cc12⟩ := stepS c12 (by omega) P11 F11 A11 cc11 hqb
   refine .call (rrshort_spec D (by omega) P12 65536) fun r13 ⟨q13, P13, c13⟩ => ?_
   rw [ef] at q13 P13
   rw [q13]
   obtain ⟨gg13, F13, A13, cc13, n13⟩ := stepR c13 (by omega) F12 A12 cc12
   refine Wp.st (gg13 _ g12) (by simp) rfl fun h14 c14 n14 g14 => ?_
   obtain ⟨P14, F14, A14, cc14⟩ := stepS c14 (by omega) P13 F13 A13 cc13 hqb
   have gz : h14.get r2.2.next = some (.cells (itC (xa, xb, (xc : Int), (xd : Int), (xe : Int), (xf : Int))) 57 true 0) := g14
   have F14' : h14.get fb = some (.cells [.slice o.a o.len o.cap, .slice q.a q.len q.cap] 28 true 0) := F14
   refine .bnd rfl (.bnd (sldL_at (o := 0 + 1) F14' rfl) (.bnd (sldA_at gz rfl) (.bnd (decI6 _) (Wp.newE fun h81 e81 k81 n81 g81 => ?_))))
   have eH : h81 = h14.new (.cells (itC (xa, xb, (xc : Int), (xd : Int), (xe : Int), (xf : Int))) 57 true 0) := e81
   have ncc := cc14.nx
   obtain ⟨s', h9, a2, A9', c9', d9⟩ := A14.push itC_len itC_one (xa, xb, (xc : Int), (xd : Int), (xe : Int), (xf : Int)) (bytes := 64) (by decide) (by omega) (by omega)
   rw [eH]
   refine .bnd (rdS_oneW itC_len _ 57) (.bnd a2 ?_)
   have hc9 : ∀ y, ofS q y → h.next ≤ y := fun y ⟨a, ha, e⟩ => by rw [e]; exact (A14.lt a ha).2
   have n9' := c9'.nx
   have F9x : h9.get fb = some (.cells [.slice o.a o.len o.cap, .slice q.a q.len q.cap] 28 true 0) := c9'.got (by omega) (fun z => by have := hc9 _ z; omega) F14'
   have P9x := P14.chg (by omega) c9' fun z => by have := hc9 _ z; omega
   refine .bnd rfl (Wp.st F9x (by simp) rfl fun h85 c85 n85 g85 => ?_)
   rw [Gx.w1 (by omega)]
   have P85 := P9x.chg (by omega) c85 fun z => hrf z
   have A85 := A9'.chg c85 fun a ha z => by have := (A9'.lt a ha).2; have z' : a.block = fb := z; omega
   have cc85 : Chg (fun y => y = rb ∨ y = fb) h h85 := Chg.beh (Chg.beh cc14 c9' fun y hy z => by have := hc9 y z; omega) c85 fun y _ z => .inr z
   refine ih (i + 1) h85 s' (ys ++ [(xa, xb, (xc : Int), (xd : Int), (xe : Int), (xf : Int))]) sf (by omega) (by simp; omega) P85 A85 g85 cc85 ?_
   cases sf with
   | none =>
    rw [run_stop eI] at hq
    refine ⟨?_, fun z => absurd rfl z⟩
    rw [← hq.1]
    cases d with
    | zero => rfl
    | succ d => simp [runL, opI, opB, opF, opS]
   | some m =>
    rw [run_cons eI] at hq
    refine ⟨hq.1, fun _ z => ?_⟩
    have := hq.2 (by simp) z
    rw [← this]; simp
end
end Gc
namespace Gc
open Go Gx
section
variable {k : Nat}
theorem rdecode_spec (D : CallF) (hk : 20000 ≤ k) (s : ByteArray) (h : AHeap) : Gx.Wp (ref16_Decode k D s h) fun z => (∀ f, decF (bl s) = some f → z.1.2 = 0 ∧ Row encS z.2 z.1.1.1 f.1 ∧ RowW 6 itC z.2 z.1.1.2 f.2 ∧ (∀ a, z.1.1.1.a = some a → h.next ≤ a.block) ∧ ∀ a, z.1.1.2.a = some a → h.next ≤ a.block) ∧ (decF (bl s) = none → z.1 = noF) ∧ Keeps h z.2 := by
 simp only [ref16_Decode]
 have hs : (bl s).length = s.size := rfl
 refine Wp.newE fun h1 e1 k1 n1 g1 => Gx.Wp.jn fun j6 h6 => ?_
 have bad6 : decF (bl s) = none → Gx.Wp (j6 s (some ⟨h.next, 0, none⟩) true h1) fun z => (∀ f, decF (bl s) = some f → z.1.2 = 0 ∧ Row encS z.2 z.1.1.1 f.1 ∧ RowW 6 itC z.2 z.1.1.2 f.2 ∧ (∀ a, z.1.1.1.a = some a → h.next ≤ a.block) ∧ ∀ a, z.1.1.2.a = some a → h.next ≤ a.block) ∧ (decF (bl s) = none → z.1 = noF) ∧ Keeps h z.2 := fun hd => by
  rw [h6]
  refine .ifp rfl (.bnd rfl (Wp.stL g1 rfl rfl rfl (by decide) fun h9 c9 n9 g9 => .bnd rfl (.bnd (sldA_at g9 rfl) (.bnd rfl (.of ⟨fun f hf => (by rw [hd] at hf; cases hf), fun _ => rfl, k1.keepsS c9 fun y hy => by subst hy; omega⟩)))))
 by_cases c2 : 65536 < s.size
 ·exact .ifp (by simp; omega) (bad6 (by unfold decF; rw [if_neg (fun q => by omega)]))
 refine .ifn (by simp; omega) ?_
 by_cases c3 : s.size < 5
 ·refine .ifp (by simp; omega) (bad6 ?_)
  unfold decF
  rw [if_neg (fun q => ?_)]
  have := congrArg List.length q.2
  rw [List.length_take] at this
  have : headB.length = 5 := rfl
  omega
 refine .ifn (by simp; omega) ?_
 have s1 := subS_of (s := s) (lo := none) (hi := some 5) (i := 0) (j := 5) rfl rfl (Nat.zero_le _) (by omega)
 rw [List.drop_zero] at s1
 refine .bnd s1 ?_
 rw [beq_ba]
 by_cases c1 : (bl s).take 5 = headB
 rotate_left
 ·have e : ¬ (⟨⟨(bl s).take 5⟩⟩ : ByteArray) = ⟨#[71, 82, 84, 73, 1]⟩ := fun e => c1 (congrArg bl e)
  rw [decide_eq_false e]
  exact bad6 (by unfold decF; rw [if_neg (fun q => c1 q.2)])
 have e : (⟨⟨(bl s).take 5⟩⟩ : ByteArray) = ⟨#[71, 82, 84, 73, 1]⟩ := bl_inj c1
 rw [decide_eq_true e, h6]
 have hlen : (bl s).length ≤ 65536 := by omega
 refine .ifn (by decide) (Wp.newE fun h12 e12 k12 n12 g12 => Wp.newE fun h13 e13 k13 n13 g13 => ?_)
 have P12 : RRd h12 h1.next (some ((bl s).drop 5)) := RRd.ok (a := 5) g12 (by omega) (by omega)
 have P13 := P12.keeps (by omega) k13
 have F13 : FB h13 h12.next ⟨none, 0, 0⟩ ⟨none, 0, 0⟩ := g13
 have gy13 : h13.get h.next = some (.cells [.slice none 0 0, .slice none 0 0] 28 true 0) := k13.got (by omega) (k12.got (by omega) g1)
 refine .call (rrshort_spec D (by omega) P13 4096) fun r14 ⟨q14, P14, c14⟩ => ?_
 obtain ⟨a1, s1', ea1⟩ : ∃ n s1, opS 4096 (some ((bl s).drop 5)) = (n, s1) := ⟨_, _, rfl⟩
 obtain ⟨l1, s2, ea2⟩ : ∃ l s2, runL (opB 32) a1 s1' = (l, s2) := ⟨_, _, rfl⟩
 obtain ⟨a3, s3, ea3⟩ : ∃ n s3, opS 4096 s2 = (n, s3) := ⟨_, _, rfl⟩
 obtain ⟨l2, s4, ea4⟩ : ∃ l s4, runL opI a3 s3 = (l, s4) := ⟨_, _, rfl⟩
 have eF : opFile (some ((bl s).drop 5)) = ((l1, l2), s4) := by
  unfold opFile
  simp only [ea1, ea2, ea3, ea4]
 rw [ea1] at q14 P14
 dsimp only at q14 P14
 rw [q14]
 have ha1 := opS_le ea1
 have ha3 := opS_le ea3
 have n14 := c14.nx
 have F14 : FB r14.2 h12.next ⟨none, 0, 0⟩ ⟨none, 0, 0⟩ := c14.got (by omega) (by omega) F13
 have k0 : Keeps h h13 := (k1.trans k12).trans k13
 have kr14 : Keeps h r14.2 := k0.keepsS c14 fun y hy => by subst hy; omega
 have gy14 := c14.got (by omega) (by omega) gy13
 refine Gx.Wp.jn fun j19 h19 => ?_
 unfold ref16_Decode_l1
 obtain ⟨bot, eb⟩ := iterK_of (fun _ _ _ _ _ _ => none) (ref16_Decode_l1b k D j19) (show a1 + 1 ≤ k by omega)
 rw [eb]
 refine rl1_spec (h := r14.2) D (by omega) (by omega) (by omega) (by omega) j19 ha1 s1' bot (fun H o ys P A hys F c => ?_) a1 0 r14.2 ⟨none, 0, 0⟩ [] s1' (by omega) (Nat.le_refl _) P14 (Acc.nil _ _ _ _) F14 (.refl _ _) ⟨rfl, fun _ _ => rfl⟩
 rw [ea2] at P hys
 dsimp only at P hys
 rw [h19]
 have nH := c.nx
 have kH : Keeps h H := kr14.keepsS c fun y hy => by rcases hy with rfl | rfl <;> omega
 have gyH := c.got (by omega) (by omega) gy14
 refine .call (rrshort_spec D (by omega) P 4096) fun r20 ⟨q20, P20, c20⟩ => ?_
 rw [ea3] at q20 P20
 dsimp only at q20 P20
 rw [q20]
 have n20 := c20.nx
 have F20 : FB r20.2 h12.next o ⟨none, 0, 0⟩ := c20.got (by omega) (by omega) F
 have A20 := A.chg c20 fun a ha z => by have := (A.lt a ha).2; omega
 have kr20 : Keeps h r20.2 := kH.keepsS c20 fun y hy => by subst hy; omega
 have gy20 := c20.got (by omega) (by omega) gyH
 refine Gx.Wp.jn fun j25 h25 => ?_
 unfold ref16_Decode_l0
 obtain ⟨bot0, eb0⟩ := iterK_of (fun _ _ _ _ _ _ => none) (ref16_Decode_l0b k D j25) (show a3 + 1 ≤ k by omega)
 rw [eb0]
 refine rl0_spec (h := r20.2) D (by omega) (by omega) (by omega) (by omega) j25 ha3 s3 bot0 (fun H2 q zs P2 A2 hzs F2 c2 => ?_) a3 0 r20.2 ⟨none, 0, 0⟩ [] s3 (by omega) (Nat.le_refl _) P20 (AccW.nil _ _ _ _ _) F20 (.refl _ _) ⟨rfl, fun _ _ => rfl⟩
 rw [ea4] at P2 hzs
 dsimp only at P2 hzs
 rw [h25]
 have nH2 := c2.nx
 have kH2 : Keeps h H2 := kr20.keepsS c2 fun y hy => by rcases hy with rfl | rfl <;> omega
 have gyH2 := c2.got (by omega) (by omega) gy20
 have AH2 := A20.chg c2 fun a ha z => by have := (A20.lt a ha).2; rcases z with z | z <;> omega
 refine Gx.Wp.jn fun j30 h30 => .call (rrend_spec D P2) fun r44 ⟨q44, c44⟩ => ?_
 have n44 := c44.nx
 have kz : Keeps h r44.2 := kH2.keepsS c44 fun y hy => by subst hy; omega
 have gy44 := c44.got (by omega) (by omega) gyH2
 have F44 : r44.2.get h12.next = some (.cells [.slice o.a o.len o.cap, .slice q.a q.len q.cap] 28 true 0) := c44.got (by omega) (by omega) F2
 have bad30 : ∀ H f27, decF (bl s) = none → Keeps h H → H.get h.next = some (.cells [.slice none 0 0, .slice none 0 0] 28 true 0) → h.next < H.next → Gx.Wp (j30 (some ⟨h.next, 0, none⟩) f27 true H) fun z => (∀ f, decF (bl s) = some f → z.1.2 = 0 ∧ Row encS z.2 z.1.1.1 f.1 ∧ RowW 6 itC z.2 z.1.1.2 f.2 ∧ (∀ a, z.1.1.1.a = some a → h.next ≤ a.block) ∧ ∀ a, z.1.1.2.a = some a → h.next ≤ a.block) ∧ (decF (bl s) = none → z.1 = noF) ∧ Keeps h z.2 := fun H f20 hd kH gH hl => by
  rw [h30]
  refine .ifp rfl (.bnd rfl (Wp.stL gH rfl rfl rfl (by decide) fun h9 c9 n9 g9 => .bnd rfl (.bnd (sldA_at g9 rfl) (.bnd rfl (.of ⟨fun f hf => (by rw [hd] at hf; cases hf), fun _ => rfl, kH.keepsS c9 fun y hy => by subst hy; omega⟩)))))
 by_cases c3 : s4 = some []
 rotate_left
 ·have hne : ¬ r44.1 = 0 := fun z => c3 (q44.1 z)
  refine .ifp (by simpa using hne) (bad30 _ _ ?_ kz gy44 (by omega))
  unfold decF
  rw [if_pos ⟨hlen, c1⟩, eF, if_neg (fun q => c3 q.1)]
 ·have h0 : r44.1 = 0 := q44.2 c3
  have s3n : s3 ≠ none := fun z => by
   rw [z] at ea4 ea3
   rw [opS_none ea3] at ea4
   cases ea4
   cases c3
  have s2n : s2 ≠ none := fun z => by
   rw [z] at ea3
   cases ea3
   exact s3n rfl
  have ey := hys s2n
  have ez := hzs (by rw [c3]; simp)
  subst ey
  subst ez
  have pa : ∀ a, o.a = some a → a.block < r20.2.next ∧ r14.2.next ≤ a.block := fun a ha => A20.lt a ha
  have pb : ∀ a, q.a = some a → a.block < H2.next ∧ r20.2.next ≤ a.block := A2.lt
  have R1 : Row encS r44.2 o ys := AH2.row.chg c44 fun x hx z => by have := (pa x hx).2; omega
  have R2 : RowW 6 itC r44.2 q zs := (A2.row itC_len).chg c44 fun x hx z => by have := (pb x hx).2; omega
  have m1 : ys.length ≤ 4096 := by
   cases hs2 : s2 with
   | none => exact absurd hs2 s2n
   | some m =>
    have h1 : (runL (opB 32) a1 s1').2 = some m := by rw [ea2, hs2]
    have gl := (runB_inv h1).2
    rw [ea2] at gl
    dsimp only at gl
    omega
  have m2 : zs.length ≤ 4096 := by
   have h1 : (runL opI a3 s3).2 = some [] := by rw [ea4, c3]
   have gl := (runI_inv h1).2
   rw [ea4] at gl
   dsimp only at gl
   omega
  refine .ifn (by simp [h0]) (.bnd rfl (.bnd (sldA_at F44 rfl) (.bnd (show decC [.l, .l] [.slice o.a o.len o.cap, .slice q.a q.len q.cap] = some (o, q) from rfl) (.call (refused_spec D R1 R2 (by omega) (by omega)) fun r48 ⟨q48, k48⟩ => ?_))))
  have n48 := k48.nx
  have g48 := k48.got (by omega) gy44
  rw [q48]
  by_cases c4 : chkF ys zs = 0
  ·have hd : decF (bl s) = some (ys, zs) := by
    unfold decF
    rw [if_pos ⟨hlen, c1⟩, eF, if_pos ⟨c3, c4⟩]
   rw [c4, h30]
   have g48f := k48.got (by omega) F44
   refine .ifn (by decide) (.bnd rfl (.bnd (sldA_at g48f rfl) (.bnd (show decC [.l, .l] [.slice o.a o.len o.cap, .slice q.a q.len q.cap] = some (o, q) from rfl) (.bnd rfl (Wp.stL g48 rfl rfl rfl (by decide) fun h33 c33 n33 g33 => .bnd rfl (.bnd (sldA_at g33 rfl) (.bnd rfl (.of ⟨fun f hf => ?_, fun hn => (by rw [hd] at hn; cases hn), (kz.trans k48).keepsS c33 fun y hy => by subst hy; omega⟩))))))))
   rw [hd] at hf
   cases hf
   exact ⟨rfl, (R1.keeps k48).chg c33 fun x hx z => by have := (pa x hx).2; omega, (R2.keeps k48).chg c33 fun x hx z => by have := (pb x hx).2; omega, fun a ha => by have := (pa a ha).2; omega, fun a ha => by have := (pb a ha).2; omega⟩
  ·have hd : decF (bl s) = none := by
    unfold decF
    rw [if_pos ⟨hlen, c1⟩, eF, if_neg (fun q => c4 q.2)]
   have hb : (chkF ys zs != 0) = true := by simpa using c4
   rw [hb]
   exact bad30 _ _ hd (kz.trans k48) g48 (by omega)
end
end Gc
namespace Gc
open Go Gx
section
variable {k base tb : Nat} {h : AHeap} {sl : Nat → Slc} {F : Nat → List It} {s : Slc} {xs : List It}
theorem SlotR.rdS (A : SlotR base h tb s xs) : Gx.rdS 6 s h = some (xs.flatMap itC) := by
 rcases A with ⟨rfl, rfl⟩ | ⟨b, sp, cap, R, A⟩
 ·rfl
 ·rw [A.s]
  simp only [Gx.rdS]
  rw [rdL_ok A.blk (by rw [List.length_append, flat_len]; omega), List.drop_zero, show xs.length * 6 = (xs.flatMap itC).length from (flat_len xs).symm, List.take_left']
  rfl
end
end Gc
namespace Gc
open Go Gx Go.RowKit Go.Maps
end Gc
namespace Gc
open Go Gx Go.RowKit Go.Maps
theorem eqIt (x y : It) : ((x.1 == y.1) && ((x.2.1 == y.2.1) && ((x.2.2.1 == y.2.2.1) && ((x.2.2.2.1 == y.2.2.2.1) && ((x.2.2.2.2.1 == y.2.2.2.2.1) && (x.2.2.2.2.2 == y.2.2.2.2.2)))))) = decide (x = y) := eqI x y
section
variable {k base tb : Nat} {h : AHeap} {sl : Nat → Slc} {F : Nat → List It} {s t : Slc} {xs ys : List It}
end
end Gc
namespace Gc
open Go Gx Go.RowKit Go.Maps
section
variable {k base tb : Nat} {h : AHeap} {sl : Nat → Slc} {F : Nat → List It} {s t : Slc} {xs ys : List ByteArray}
def WR (w : Nat) (h : AHeap) (s : Slc) : Prop := (s.len ≠ 0 → s.a ≠ none) ∧ ∀ a, s.a = some a → ∃ c e, h.get a.block = some (.cells c e true 0) ∧ a.off + s.len * w ≤ c.length
theorem WR.chg {S : Nat → Prop} {w : Nat} {h h' : AHeap} {s : Slc} (W : WR w h s) (c : Chg S h h') (hs : ∀ a, s.a = some a → a.block < h.next ∧ ¬ S a.block) : WR w h' s :=
 ⟨W.1, fun a ha => by
  obtain ⟨cc, e, hg, hl⟩ := W.2 a ha
  exact ⟨cc, e, c.got (hs a ha).1 (hs a ha).2 hg, hl⟩⟩
end
end Gc
namespace Gc
open Go Gx Go.RowKit Go.Maps
section
variable {k base tb : Nat} {h : AHeap} {sl : Nat → Slc} {F : Nat → List It} {s t : Slc} {xs ys : List ByteArray}
end
end Gc
namespace Gc
open Go Gx Go.RowKit Go.Maps
end Gc
namespace Gc
open Go Gx Go.RowKit Go.Maps
section
variable {k base b0 tb tf : Nat} {h : AHeap} {sl : Nat → Slc} {F : Nat → List It} {s : Slc} {xs : List It}
end
end Gc
namespace Gc
open Go Gx Go.RowKit Go.Maps
structure LT (base : Nat) (h : AHeap) (rb : Nat) (s : Slc) (xs : List It) : Prop where
 blk : h.get rb = some (.cells [.slice s.a s.len s.cap] 77 true 0)
 lt : rb < h.next
 ge : base ≤ rb
 acc : AccW 6 itC 57 base h s xs
 ne : ∀ a, s.a = some a → a.block ≠ rb
section
variable {k base rb : Nat} {h h' : AHeap} {s : Slc} {xs ys : List It}
def LOwn (rb : Nat) (s : Slc) (y : Nat) : Prop := y = rb ∨ ofS s y
theorem LT.own (T : LT base h rb s xs) {y : Nat} (hy : LOwn rb s y) : base ≤ y ∧ y < h.next := by
 rcases hy with rfl | ⟨a, ha, rfl⟩
 ·exact ⟨T.ge, T.lt⟩
 ·exact ⟨(T.acc.lt a ha).2, (T.acc.lt a ha).1⟩
theorem LT.chg {S : Nat → Prop} (T : LT base h rb s xs) (c : Chg S h h') (hs : ∀ y, LOwn rb s y → ¬ S y) : LT base h' rb s xs :=
 ⟨(c.oth rb T.lt (hs rb (.inl rfl))).trans T.blk, Nat.lt_of_lt_of_le T.lt c.nx, T.ge, T.acc.chg c fun a ha => hs _ (.inr ⟨a, ha, rfl⟩), T.ne⟩
theorem LT.keeps (T : LT base h rb s xs) (c : Keeps h h') : LT base h' rb s xs := T.chg c fun _ _ f => f
theorem LT.ld (T : LT base h rb s xs) : ldL ⟨rb, 0 + 0, none⟩ h = some s := sldL_at T.blk rfl
theorem LT.row (T : LT base h rb s xs) : RowW 6 itC h s xs := T.acc.row itC_len
end
end Gc
namespace Gc
open Go Gx Go.RowKit Go.Maps
section
variable {k base rb : Nat} {h h' : AHeap} {s : Slc} {xs ys : List It}
end
end Gc
namespace Gc
open Go Gx Go.RowKit Go.Maps
section
variable {k base tb rb : Nat} {h h' : AHeap} {sl : Nat → Slc} {F : Nat → List It} {s t : Slc} {xs ys : List It}
end
end Gc
namespace Gc
open Go Gx Go.RowKit Go.Maps
section
variable {α : Type} {w : Nat} {enc : α → List Value} {e : TypeId} {base bytes : Nat} {H : AHeap} {s o : Slc} {xs os : List α}
end
def sC (x : ByteArray) : List Value := [.string x]
theorem rowS {h : AHeap} {s : Slc} {xs : List ByteArray} (R : RowW 1 sC h s xs) : Row encS h s xs := ⟨R.len, fun i x hx => by
 obtain ⟨a, c, e, r, fz, h1, h2, h3, h4⟩ := R.at' i x hx
 exact ⟨a, c, e, r, fz, h1, h2, h3, by have := h4 0 (.string x) rfl; rw [Nat.mul_one, Nat.add_zero] at this; exact this⟩⟩
section
variable {k base rb : Nat} {h h' : AHeap} {s : Slc} {xs : List It}
theorem ld5 {H : AHeap} {q : Addr} {x : It} (h6 : ldA 6 q H = some (itC x)) : ldA 5 ⟨q.block, q.off + 1, none⟩ H = some (plC x.2) := by
 simp only [ldA] at h6 ⊢
 obtain ⟨cc, e, r, fz, g1, g2, g3⟩ := rdL_some h6 (by decide)
 rw [rdL_ok g1 (by omega)]
 congr 1
 have : (cc.drop (q.off + 1)).take 5 = ((cc.drop q.off).take 6).drop 1 := by rw [List.drop_take, List.drop_drop]
 rw [this, ← g3]; rfl
end
end Gc
namespace Gc
open Go Gx Go.RowKit Go.Maps
section
variable {k base rb : Nat} {h h' : AHeap} {s : Slc} {xs : List It}
end
end Gc
namespace Gc
open Go Gx Go.RowKit Go.Maps
section
variable {k base rb tb : Nat} {h h' : AHeap} {s t : Slc} {sl : Nat → Slc} {F : Nat → List It}
theorem sameT_spec (D : CallF) {xs ys : List ByteArray} (R : Row encS h s xs) (S : Row encS h t ys) (hl : xs.length + 2 ≤ k) (hb : xs.length ≤ 1000000000) : Gx.Wp (book_SameTexts k D s t h) fun z => z.1 = decide (xs = ys) ∧ z.2 = h := by
 simp only [book_SameTexts]
 by_cases hc : xs.length = ys.length
 rotate_left
 ·exact .ifp (by rw [R.1, S.1]; simp; omega) (.of ⟨by symm; exact decide_eq_false (fun e => hc (by rw [e])), rfl⟩)
 refine .ifn (by rw [R.1, S.1]; simp; omega) (Gx.Wp.jn fun j2 h2 => ?_)
 unfold book_SameTexts_l0
 obtain ⟨bot, eb⟩ := iterK_of (fun _ _ _ _ => none) (book_SameTexts_l0b k D j2) (show xs.length + 1 ≤ k by omega)
 rw [eb]
 have loop : ∀ (d i : Nat), i + d = xs.length → xs.take i = ys.take i → Gx.Wp (iterK bot (d + 1) (book_SameTexts_l0b k D j2) s t (i : Int) h) fun z => z.1 = decide (xs = ys) ∧ z.2 = h := fun d => by
  induction d with
  | zero =>
   intro i hd ht
   rw [iterK_s]; simp only [book_SameTexts_l0b]
   refine .ifn (by rw [R.1]; simp; omega) ?_
   rw [h2]
   rw [List.take_of_length_le (by omega), List.take_of_length_le (by omega)] at ht
   exact .of ⟨by symm; exact decide_eq_true ht, rfl⟩
  | succ d ih =>
   intro i hd ht
   rw [iterK_s]; simp only [book_SameTexts_l0b]
   obtain ⟨x, hx⟩ := isome (l := xs) (i := i) (by omega)
   obtain ⟨y, hy⟩ := isome (l := ys) (i := i) (by omega)
   obtain ⟨q, b1, b2⟩ := Row.ldS R hx
   obtain ⟨q', c1, c2⟩ := Row.ldS S hy
   refine .ifp (by rw [R.1]; simp; omega) (.bnd b1 (.bnd b2 (.bnd c1 (.bnd c2 ?_))))
   rw [beq_ba]
   by_cases e : x = y
   ·refine .ifn (by simp [e]) ?_
    rw [Gx.w1 (by omega)]
    refine ih (i + 1) (by omega) ?_
    rw [List.take_add_one, List.take_add_one, ht, hx, hy, e]
   ·refine .ifp (by simp [e]) (.of ⟨?_, rfl⟩)
    symm; refine decide_eq_false (fun e2 => e ?_)
    rw [e2, hy] at hx; exact (Option.some.inj hx).symm
 exact loop xs.length 0 (by omega) rfl
end
end Gc
namespace Gc
open Go Gx Go.RowKit Go.Maps
section
variable {k base b2 rb tb : Nat} {h : AHeap} {s : Slc} {sl : Nat → Slc} {F : Nat → List It}
end
end Gc
namespace Gc
open Go Gx Go.RowKit Go.Maps
abbrev ItD : DT := .pair .str (.pair (.pair .str (.pair (.int .i64) (.pair (.int .i64) (.pair (.int .i64) (.pair (.int .i64) .unit))))) .unit)
def toIt (x : DT.V ItD) : It := (x.1, x.2.1.1, x.2.1.2.1, x.2.1.2.2.1, x.2.1.2.2.2.1, x.2.1.2.2.2.2.1)
theorem rep_slc {h : AHeap} {T : DT} {c : Slc} {l : List T.V} (R : Rep h (.list T) l [.slice c.a c.len c.cap]) : c.len = l.length ∧ (∀ a, c.a = some a → a.block < h.next) ∧
  ∀ (i : Nat) (x : T.V), l[i]? = some x → ∃ a cc e r fz cx, c.a = some a ∧ h.get a.block = some (.cells cc e r fz) ∧ cx.length = T.w ∧ (∀ (j : Nat) (v : Value), cx[j]? = some v → cc[a.off + i * T.w + j]? = some v) ∧ Rep h T x cx := by
 obtain ⟨sl, es, hl, hb, hx⟩ := R
 have e0 : c = sl := by
  obtain ⟨a, b, m⟩ := sl
  obtain ⟨a', b', m'⟩ := c
  simp only [List.cons.injEq, Value.slice.injEq, and_true] at es
  obtain ⟨rfl, rfl, rfl⟩ := es
  rfl
 subst e0
 exact ⟨hl, hb, hx⟩
theorem rep_it {h : AHeap} {x : DT.V ItD} {cx : List Value} (R : Rep h ItD x cx) : cx = itC (toIt x) := by
 obtain ⟨c1, c2, rfl, ⟨rfl, z1⟩, c3, c4, rfl, ⟨c5, c6, rfl, ⟨rfl, z2⟩, c7, c8, rfl, ⟨rfl, _⟩, c9, c10, rfl, ⟨rfl, _⟩, c11, c12, rfl, ⟨rfl, _⟩, c13, c14, rfl, ⟨rfl, _⟩, e1⟩, e2⟩ := R
 have e1' : c14 = [] := e1
 have e2' : c4 = [] := e2
 rw [e1', e2']
 rfl
theorem rep_items {h : AHeap} {c : Slc} {l : List (DT.V ItD)} (R : Rep h (.list ItD) l [.slice c.a c.len c.cap]) : RowW 6 itC h c (l.map toIt) ∧ ∀ a, c.a = some a → a.block < h.next := by
 obtain ⟨hl, hb, hx⟩ := rep_slc R
 refine ⟨⟨by rw [List.length_map]; exact hl, fun i y hy => ?_⟩, hb⟩
 rw [List.getElem?_map] at hy
 cases e : l[i]? with
 | none => rw [e] at hy; cases hy
 | some x =>
  rw [e] at hy
  cases hy
  obtain ⟨a, cc, el, r, fz, cx, h1, h2, h3, h4, h5⟩ := hx i x e
  refine ⟨a, cc, el, r, fz, h1, hb a h1, h2, fun j v hj => h4 j v ?_⟩
  rw [rep_it h5]; exact hj
theorem RowW.rdAll {α : Type} {w : Nat} {enc : α → List Value} {h : AHeap} {s : Slc} {xs : List α} (R : RowW w enc h s xs) (hw : ∀ x, (enc x).length = w) (hw0 : 0 < w) : Gx.rdS w s h = some (xs.flatMap enc) := by
 unfold Gx.rdS
 rw [R.len]
 by_cases c : xs = []
 ·subst c
  simp only [List.length_nil, Nat.zero_mul, List.flatMap_nil]
  cases s.a <;> rfl
 ·have hp : 0 < xs.length := List.length_pos_iff.2 c
  obtain ⟨x0, hx0⟩ := isome (l := xs) (i := 0) hp
  obtain ⟨a, cc, e, r, fz, h1, h2, h3, _⟩ := R.at' 0 x0 hx0
  have all : ∀ (i : Nat) (x : α), xs[i]? = some x → ∀ (j : Nat) (v : Value), (enc x)[j]? = some v → cc[a.off + i * w + j]? = some v := fun i x hx j v hj => by
   obtain ⟨a', cc', e', r', fz', g1, g2, g3, g4⟩ := R.at' i x hx
   rw [h1] at g1; cases g1
   rw [h3] at g3; cases g3
   exact g4 j v hj
  have hlen : a.off + xs.length * w ≤ cc.length := by
   obtain ⟨x, hx⟩ := isome (l := xs) (i := xs.length - 1) (by omega)
   obtain ⟨v, hv⟩ := isome (l := enc x) (i := w - 1) (by rw [hw]; omega)
   have := (List.getElem?_eq_some_iff.1 (all _ x hx _ v hv)).1
   have e2 : (xs.length - 1) * w + w = xs.length * w := by rw [← Nat.succ_mul]; congr 1; omega
   omega
  rw [h1]
  show h.rdL a.block a.off (xs.length * w) = _
  rw [rdL_ok h3 hlen]
  congr 1
  apply List.ext_getElem?
  intro m
  rw [List.getElem?_take]
  by_cases hm : m < xs.length * w
  ·rw [if_pos hm, List.getElem?_drop]
   have hd : m / w < xs.length := (Nat.div_lt_iff_lt_mul hw0).2 hm
   have hmod := Nat.mod_lt m hw0
   have em : m / w * w + m % w = m := by rw [Nat.mul_comm]; exact Nat.div_add_mod m w
   obtain ⟨x, hx⟩ := isome (l := xs) (i := m / w) hd
   obtain ⟨v, hv⟩ := isome (l := enc x) (i := m % w) (by rw [hw]; exact hmod)
   have g1 := all _ x hx _ v hv
   have g2 := flatW_get hw hx _ v hv
   rw [em] at g2
   rw [Nat.add_assoc, em] at g1
   rw [g1, g2]
  ·rw [if_neg hm, List.getElem?_eq_none (by rw [flatW_length hw]; omega)]
end Gc
namespace Gc
open Go Gx
abbrev Sp := List ByteArray × List ByteArray × List It
open Classical in
noncomputable def spStep (s : Sp) (x : It) : Sp := if tooB s.2.1 (s.2.2 ++ [x]) then (s.1 ++ [bA (textB s.2.1 s.2.2)], [], [x]) else (s.1, s.2.1, s.2.2 ++ [x])
noncomputable def spAll (sup : List ByteArray) (its : List It) : Sp := its.foldl spStep ([], sup, [])
theorem spAll_snoc (sup : List ByteArray) (l : List It) (x : It) : spAll sup (l ++ [x]) = spStep (spAll sup l) x := by simp [spAll]
open Classical in
noncomputable def splitR (sup : List ByteArray) (its : List It) : List ByteArray × Int :=
 if chkF sup its = 0 then if tooB sup [] then ([], 2) else ((spAll sup its).1 ++ [bA (textB (spAll sup its).2.1 (spAll sup its).2.2)], 0) else ([], chkF sup its)
def SpOk (s : Sp) (i : Nat) : Prop := ¬ tooB s.2.1 s.2.2 ∧ sizeOk s.2.1 s.2.2 ∧ s.1.length ≤ i ∧ s.2.2.length ≤ i
theorem one_small (x : It) (h : okI x) : ¬ tooB [] [x] := by
 have a := leb_len 1 0 (by decide)
 have b := leb_len 1 1 (by decide)
 have e := itsB_len (its := [x]) (fun y hy => by rw [List.mem_singleton.1 hy]; exact h)
 have e2 : (textB [] [x]).length ≤ 65536 := by
  simp only [textB, List.length_append, headB, List.length_cons, List.length_nil, supB, List.flatMap_nil, Nat.zero_add] at e ⊢
  omega
 rintro (q | q | q)
 ·simp at q
 ·simp at q
 ·omega
theorem spStep_ok {s : Sp} {i : Nat} {x : It} (h : SpOk s i) (hx : okI x) : SpOk (spStep s x) (i + 1) := by
 obtain ⟨h1, h2, h3, h4⟩ := h
 unfold spStep
 by_cases c : tooB s.2.1 (s.2.2 ++ [x])
 ·rw [if_pos c]
  exact ⟨one_small x hx, ⟨fun y hy => (List.not_mem_nil hy).elim, fun y hy => by rw [List.mem_singleton.1 hy]; exact hx⟩, by simp; omega, by simp⟩
 ·rw [if_neg c]
  refine ⟨c, ⟨h2.1, fun y hy => ?_⟩, by simp; omega, by simp; omega⟩
  rcases List.mem_append.1 hy with g | g
  ·exact h2.2 y g
  ·rw [List.mem_singleton.1 g]; exact hx
theorem clip_app {k : Nat} {D : CallF} {base : Nat} {H h42 : AHeap} {q : Slc} {ys : List It} (S : RowW 6 itC H q ys) (kk : Keeps H h42) (hl : ys.length ≤ 100000) (hb : base ≤ h42.next)
  (cl : (q.len ≠ 0 → q.a ≠ none) ∧ (∀ a, q.a = some a → spOk a.spot 6 = true) ∧ q.len ≤ q.cap) (x : It) :
  ∃ c s' h43, (∀ h, slices_Clip_api_Item_api_Item k D q h = some (c, h)) ∧ appendA 6 64 57 h42 c (itC x) 1 = some (s', h43) ∧ AccW 6 itC 57 base h43 s' (ys ++ [x]) ∧ Keeps h42 h43 ∧ s'.a = some ⟨h42.next, 0, some 7⟩ := by
 obtain ⟨c1, c2, c3⟩ := cl
 have hlen := S.len
 have R := RowW.rdAll (S.keeps kk) itC_len (by decide)
 obtain ⟨qa, ql, qc⟩ := q
 simp only at c1 c2 c3 hlen R
 cases qa with
 | none =>
  have h0 : ql = 0 := by
   by_cases z : ql = 0
   ·exact z
   ·exact absurd rfl (c1 z)
  subst h0
  obtain rfl := List.length_eq_zero_iff.1 hlen.symm
  refine ⟨⟨none, 0, 0⟩, ⟨some ⟨h42.next, 0, some 7⟩, 1, 1⟩, h42.new (.cells (itC x) 57 true 0), fun h => ?_, ?_, ⟨.inr ⟨h42.next, rfl, by simp, by simp⟩, ?_⟩, Keeps.new _ _, rfl⟩
  ·simp only [slices_Clip_api_Item_api_Item, Gx.subL, Option.getD_some, Option.getD_none]
   rw [if_pos (by omega)]; rfl
  ·simp only [appendA]
   rw [if_neg (by omega), if_pos (by omega)]
  ·intro a ha; cases ha; simp; omega
 | some a =>
  have sp := c2 a rfl
  refine ⟨⟨some ⟨a.block, a.off, some 0⟩, ql, ql⟩, ⟨some ⟨h42.next, 0, some 7⟩, ql + 1, ql + 1⟩, h42.new (.cells (ys.flatMap itC ++ itC x) 57 true 0), fun h => ?_, ?_, ⟨.inr ⟨h42.next, by simp [hlen], by simp, by simp⟩, ?_⟩, Keeps.new _ _, rfl⟩
  ·simp only [slices_Clip_api_Item_api_Item, Gx.subL, Option.getD_some, Option.getD_none]
   rw [if_pos (by omega), if_pos sp]
   simp
  ·simp only [appendA]
   have R' : h42.rdL a.block a.off (ql * 6) = some (ys.flatMap itC) := R
   rw [if_neg (by omega), if_pos (by omega), R']
   rfl
  ·intro a ha; cases ha; simp; omega
end Gc
namespace Gc
open Go Gx Go.RowKit Go.Maps
abbrev Tr := Int × Int × Int × Unit
end Gc
namespace Gc
open Go Gx Go.RowKit Go.Maps
structure Two (h H : AHeap) (ta tb : Nat) (sla slb : Nat → Slc) (Fa Fb : Nat → List It) : Prop where
 A : Tab h.next H ta sla Fa
 B : Tab h.next H tb slb Fb
 ap : ∀ y, TOwn ta sla y → ¬ TOwn tb slb y
 kp : Keeps h H
section
variable {k ta tb : Nat} {h H H' : AHeap} {sla slb sl' : Nat → Slc} {Fa Fb F' : Nat → List It} {s : Slc} {l : List Tr}
theorem Two.keeps (W : Two h H ta tb sla slb Fa Fb) (c : Keeps H H') : Two h H' ta tb sla slb Fa Fb := ⟨W.A.keeps c, W.B.keeps c, W.ap, W.kp.trans c⟩
theorem oneRow {H : AHeap} {b : Nat} (x : It) (g : H.get b = some (.cells (itC x) 57 true 0)) (hb : b < H.next) : RowW 6 itC H ⟨some ⟨b, 0, some 0⟩, 1, 1⟩ [x] := by
 have := rowW_blk (w := 6) (enc := itC) itC_len (n := 1) (cap := 1) (sp := some 0) (ys := [x]) (by simpa using g) hb (Nat.le_refl _)
 exact this
end
end Gc
