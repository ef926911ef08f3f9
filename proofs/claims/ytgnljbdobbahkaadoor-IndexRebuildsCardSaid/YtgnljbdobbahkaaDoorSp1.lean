import Derived.Sort.Walk0
import Derived.Test.YtgnljbdobbahkaaDoorFn1
namespace Ge
open Go Gx
theorem less_eq (a b : ByteArray) : Op.bytesLess a.toList b.toList = decide (bl a < bl b) := by
 rw [Go.Proofs.bytesLess_eq, ByteArray.toList_eq, ByteArray.toList_eq]; rfl
theorem beq_ba (a b : ByteArray) : (a == b) = decide (a = b) := by
 have e : (a == b) = (a.data == b.data) := rfl
 rw [e]
 by_cases h : a = b
 ·subst h; simp
 ·have : ¬ a.data = b.data := fun e => h (by cases a; cases b; simp at e; rw [e])
  simp [h, this]
abbrev It := ByteArray × ByteArray × Int × Int × Int × Int
def itC (x : It) : List Value := [.string x.1, .string x.2.1, .int .i64 x.2.2.1, .int .i64 x.2.2.2.1, .int .i64 x.2.2.2.2.1, .int .i64 x.2.2.2.2.2]
theorem itC_len (x : It) : (itC x).length = 6 := rfl
theorem itC_one (x : It) : allOne (itC x) = true := rfl
def cmpB (a b : ByteArray) : Int := if bl a < bl b then -1 else if a = b then 0 else 1
def cmpI (a b : Int) : Int := if a < b then -1 else if a = b then 0 else 1
def orL : List Int → Int
 | [] => 0
 | c :: l => if c ≠ 0 then c else orL l
def ordL (x y : It) : List Int := [cmpB x.1 y.1, cmpB x.2.1 y.2.1, cmpI x.2.2.2.1 y.2.2.2.1, cmpI x.2.2.2.2.1 y.2.2.2.2.1, cmpI x.2.2.2.2.2 y.2.2.2.2.2, cmpI x.2.2.1 y.2.2.1]
def ord (x y : It) : Int := orL (ordL x y)
def lessI (x y : It) : Bool := decide (ord x y < 0)
section
variable (k : Nat) (D : CallF)
theorem cmpS_spec (a b : ByteArray) (h : AHeap) : cmp_Compare_string k D a b h = some (cmpB a b, h) := by
 simp only [cmp_Compare_string, cmp_isNaN_string, Option.bind_some, beq_ba, less_eq, cmpB]
 by_cases c : bl a < bl b
 ·simp [c]
 ·by_cases e : a = b
  ·simp [e, List.lt_irrefl]
  ·simp [c, e]
theorem cmpN_spec (a b : Int) (h : AHeap) : cmp_Compare_int k D a b h = some (cmpI a b, h) := by
 simp only [cmp_Compare_int, cmp_isNaN_int, Option.bind_some, cmpI]
 by_cases c : a < b
 ·simp [c]
 ·by_cases e : a = b
  ·simp [e]
  ·have : b < a := by omega
   simp [c, e, this]
theorem or_spec {k : Nat} (hk : 100 ≤ k) {h : AHeap} {s : Slc} {xs : List Int} (R : Row encI h s xs) (hl : xs.length < 90) : cmp_Or_int k D s h = some (orL xs, h) := by
 simp only [cmp_Or_int]
 refine jn ?_
 unfold cmp_Or_int_l0
 generalize hj : (fun (zero1 : Int) (h2 : AHeap) => some (zero1, h2)) = j
 obtain ⟨bot, eb⟩ := iterK_of (fun _ _ _ _ _ => none) (cmp_Or_int_l0b k D j) (show xs.length + 1 ≤ k by omega)
 rw [eb]
 have loop : ∀ (d i : Nat), i + d = xs.length → iterK bot (d + 1) (cmp_Or_int_l0b k D j) 0 s (s.len : Int) (i : Int) h = some (orL (xs.drop i), h) := fun d => by
  induction d with
  | zero =>
   intro i hd
   obtain rfl : i = xs.length := by omega
   rw [iterK_s, List.drop_length]; simp only [cmp_Or_int_l0b]
   subst hj
   exact ifn (by rw [R.1]; simp) rfl
  | succ d ih =>
   intro i hd
   rw [iterK_s]; simp only [cmp_Or_int_l0b]
   obtain ⟨x, hx⟩ := isome (l := xs) (i := i) (by omega)
   obtain ⟨p, b1, b2⟩ := R.ldI hx
   refine ifp (by rw [R.1]; simp; omega) (bnd b1 (bnd b2 ?_))
   rw [dropc hx]
   by_cases c : x = 0
   ·refine ifn (by simp [c]) ?_
    rw [Gx.w1 (by omega), ih (i + 1) (by omega)]
    simp [orL, c]
   ·exact ifp (by simp [c]) (by simp [orL, c])
 exact loop xs.length 0 (by omega)
theorem ssw {hs : List AHeap} {H : AHeap} {F : AHeap → Option Value} {v : Value} (hh : ∀ x ∈ hs, x = H) (h : F H = some v) : SameW hs F v := fun x hx => by rw [hh x hx]; exact h
theorem order_spec {k : Nat} (hk : 100 ≤ k) (x y : It) (h : AHeap) : Gx.Wp (lookup_order k D x y h) fun z => z.1 = ord x y ∧ Keeps h z.2 := by
 simp only [lookup_order]
 refine Wp.newE fun H1 e1 k1 n1 g1 => Wp.newE fun H2 e2 k2 n2 g2 => ?_
 have gx : H2.get h.next = some (.cells (itC x) 57 true 0) := k2.got (by omega) g1
 have gy : H2.get H1.next = some (.cells (itC y) 57 true 0) := g2
 have lS : ∀ {b o : Nat} {c : List Value} {t : ByteArray}, H2.get b = some (.cells c 57 true 0) → c[o]? = some (.string t) → ldS ⟨b, o, none⟩ H2 = some t := fun hb hc => by simp [ldS, AHeap.rd1, hb, hc, decS]
 have lI : ∀ {b o : Nat} {c : List Value} {t : Int}, H2.get b = some (.cells c 57 true 0) → c[o]? = some (.int .i64 t) → ldI .i64 ⟨b, o, none⟩ H2 = some t := fun hb hc => sldI_at hb hc
 have x1 := lS (o := 0) gx rfl; have x2 := lS (o := 1) gx rfl; have x3 := lI (o := 3) gx rfl; have x4 := lI (o := 4) gx rfl; have x5 := lI (o := 5) gx rfl; have x6 := lI (o := 2) gx rfl
 have y1 := lS (o := 0) gy rfl; have y2 := lS (o := 1) gy rfl; have y3 := lI (o := 3) gy rfl; have y4 := lI (o := 4) gy rfl; have y5 := lI (o := 5) gy rfl; have y6 := lI (o := 2) gy rfl
 refine .bnd x1 (.bnd y1 (.bnd (cmpS_spec k D _ _ _) ?_))
 refine .bnd x2 (.gp (ssw (H := H2) (by simp) (by rw [x2]; rfl)) (.bnd y2 (.gp (ssw (H := H2) (by simp) (by rw [y2]; rfl)) (.bnd (cmpS_spec k D _ _ _) ?_))))
 refine .bnd x3 (.gp (ssw (H := H2) (by simp) (by rw [x3]; rfl)) (.bnd y3 (.gp (ssw (H := H2) (by simp) (by rw [y3]; rfl)) (.bnd (cmpN_spec k D _ _ _) ?_))))
 refine .bnd x4 (.gp (ssw (H := H2) (by simp) (by rw [x4]; rfl)) (.bnd y4 (.gp (ssw (H := H2) (by simp) (by rw [y4]; rfl)) (.bnd (cmpN_spec k D _ _ _) ?_))))
 refine .bnd x5 (.gp (ssw (H := H2) (by simp) (by rw [x5]; rfl)) (.bnd y5 (.gp (ssw (H := H2) (by simp) (by rw [y5]; rfl)) (.bnd (cmpN_spec k D _ _ _) ?_))))
 refine .bnd x6 (.gp (ssw (H := H2) (by simp) (by rw [x6]; rfl)) (.bnd y6 (.gp (ssw (H := H2) (by simp) (by rw [y6]; rfl)) (.bnd (cmpN_spec k D _ _ _) ?_))))
 refine Wp.newE fun H3 e3 k3 n3 g3 => ?_
 have R : Row encI H3 (⟨some ⟨H2.next, 0, some 0⟩, 6, 6⟩ : Slc) (ordL x y) := Row.of_block (xs := ordL x y) (o := 0) g3 (by rw [n3]; exact Nat.lt_succ_self H2.next) fun i z hz => by
  match i with
  | 0 => cases hz; rfl
  | 1 => cases hz; rfl
  | 2 => cases hz; rfl
  | 3 => cases hz; rfl
  | 4 => cases hz; rfl
  | 5 => cases hz; rfl
  | i + 6 => simp [ordL] at hz
 exact .bnd (or_spec D hk R (by simp [ordL])) (.of ⟨rfl, (k1.trans k2).trans k3⟩)
theorem decI6 (x : It) : decC [.s, .s, .i .i64, .i .i64, .i .i64, .i .i64] (itC x) = some x := rfl
theorem less_spec {k : Nat} (hk : 100 ≤ k) (x y : It) (h : AHeap) : Gx.Wp (lookup_Less k D x y h) fun z => z.1 = lessI x y ∧ Keeps h z.2 := by
 simp only [lookup_Less]
 refine Wp.newE fun H1 e1 k1 n1 g1 => Wp.newE fun H2 e2 k2 n2 g2 => ?_
 have gx : H2.get h.next = some (.cells (itC x) 57 true 0) := k2.got (by omega) g1
 refine .bnd (sldA_at gx rfl) (.bnd (decI6 x) (.bnd (sldA_at g2 rfl) (.bnd (decI6 y) (.call (order_spec D hk x y H2) fun r ⟨q1, q2⟩ => .of ⟨?_, (k1.trans k2).trans q2⟩))))
 show decide (r.1 < 0) = _
 rw [q1]; rfl
end
end Ge
namespace Ge
open Go Gx
def okI (x : It) : Prop := x.1.size = 32 ∧ x.2.1.size = 32 ∧ (x.2.2.1 = 1 ∨ x.2.2.1 = 2) ∧ (0 ≤ x.2.2.2.1 ∧ x.2.2.2.1 ≤ 65536) ∧ (1 ≤ x.2.2.2.2.1 ∧ x.2.2.2.2.1 ≤ 65536) ∧ (0 ≤ x.2.2.2.2.2 ∧ x.2.2.2.2.2 ≤ 65536)
instance (x : It) : Decidable (okI x) := by unfold okI; exact inferInstance
def chkI (x : It) : Int := if okI x then 0 else 1
section
variable (k : Nat) (D : CallF)
theorem within_spec (n l : Int) (h : AHeap) : lookup_within k D n l h = some (decide (l ≤ n ∧ n ≤ 65536), h) := by
 simp only [lookup_within]
 by_cases c : l ≤ n
 ·simp [c]
 ·simp [c]
theorem check_spec (x : It) (h : AHeap) : Gx.Wp (lookup_Check k D x h) fun z => z.1 = chkI x ∧ Keeps h z.2 := by
 simp only [lookup_Check]
 refine Wp.newE fun H1 e1 k1 n1 g1 => Wp.jn fun j5 h5 => ?_
 have gx : H1.get h.next = some (.cells (itC x) 57 true 0) := g1
 have lS : ∀ {o : Nat} {t : ByteArray}, (itC x)[o]? = some (.string t) → ldS ⟨h.next, o, none⟩ H1 = some t := fun hc => by simp [ldS, AHeap.rd1, gx, hc, decS]
 have lI : ∀ {o : Nat} {t : Int}, (itC x)[o]? = some (.int .i64 t) → ldI .i64 ⟨h.next, o, none⟩ H1 = some t := fun hc => sldI_at gx hc
 have J : ∀ kd : Bool, (kd = true ↔ (x.2.2.1 = 1 ∨ x.2.2.1 = 2)) → Gx.Wp (j5 (some ⟨h.next, 0, none⟩) kd H1) fun z => z.1 = chkI x ∧ Keeps h z.2 := by
  intro kd hkd
  rw [h5]
  refine Wp.jn fun j8 h8 => ?_
  have j8t : ¬ okI x → Gx.Wp (j8 true H1) fun z => z.1 = chkI x ∧ Keeps h z.2 := fun hn => by rw [h8]; exact .of ⟨by simp [chkI, hn], k1⟩
  have j8f : okI x → Gx.Wp (j8 false H1) fun z => z.1 = chkI x ∧ Keeps h z.2 := fun hn => by rw [h8]; exact .of ⟨by simp [chkI, hn], k1⟩
  refine .bnd rfl (.bnd (lS (o := 0) rfl) (.bnd rfl ?_))
  by_cases c1 : x.1.size = 32
  rotate_left
  ·exact .ifp (by simp; omega) (j8t fun q => c1 q.1)
  refine .ifn (by simp [c1]) (.bnd rfl (.bnd (lS (o := 1) rfl) (.bnd rfl ?_)))
  by_cases c2 : x.2.1.size = 32
  rotate_left
  ·exact .ifp (by simp; omega) (j8t fun q => c2 q.2.1)
  refine .ifn (by simp [c2]) ?_
  by_cases c3 : kd = true
  rotate_left
  ·exact .ifp (by simpa using c3) (j8t fun q => c3 (hkd.2 q.2.2.1))
  refine .ifn (by simp [c3]) (.bnd rfl (.bnd (lI (o := 3) rfl) (.bnd (within_spec k D _ _ _) ?_)))
  by_cases c4 : 0 ≤ x.2.2.2.1 ∧ x.2.2.2.1 ≤ 65536
  rotate_left
  ·exact .ifp (by simp only [c4, decide_false, Bool.not_false]) (j8t fun q => c4 q.2.2.2.1)
  refine .ifn (by simp [c4]) (.bnd rfl (.bnd (lI (o := 4) rfl) (.bnd (within_spec k D _ _ _) ?_)))
  by_cases c5 : 1 ≤ x.2.2.2.2.1 ∧ x.2.2.2.2.1 ≤ 65536
  rotate_left
  ·exact .ifp (by simp only [c5, decide_false, Bool.not_false]) (j8t fun q => c5 q.2.2.2.2.1)
  refine .ifn (by simp [c5]) (.bnd rfl (.bnd (lI (o := 5) rfl) (.bnd (within_spec k D _ _ _) ?_)))
  by_cases c6 : 0 ≤ x.2.2.2.2.2 ∧ x.2.2.2.2.2 ≤ 65536
  ·simp only [c6, and_self, decide_true, Bool.not_true]
   exact j8f ⟨c1, c2, hkd.1 c3, c4, c5, c6⟩
  ·simp only [c6, decide_false, Bool.not_false]
   exact j8t fun q => c6 q.2.2.2.2.2
 refine .bnd (lI (o := 2) rfl) ?_
 by_cases c : x.2.2.1 = 1
 ·exact .ifp (by simpa using c) (J true (by simp [c]))
 ·exact .ifn (by simpa using c) (.bnd (lI (o := 2) rfl) (J _ (by simp [c])))
def rlessI (x y : It) : Bool :=
 if x.1 ≠ y.1 then decide (bl x.1 < bl y.1) else if x.2.1 ≠ y.2.1 then decide (bl x.2.1 < bl y.2.1) else
 if x.2.2.2.1 ≠ y.2.2.2.1 then decide (x.2.2.2.1 < y.2.2.2.1) else if x.2.2.2.2.1 ≠ y.2.2.2.2.1 then decide (x.2.2.2.2.1 < y.2.2.2.2.1) else
 if x.2.2.2.2.2 ≠ y.2.2.2.2.2 then decide (x.2.2.2.2.2 < y.2.2.2.2.2) else decide (x.2.2.1 < y.2.2.1)
theorem cmpB_zero {a b : ByteArray} : cmpB a b = 0 ↔ a = b := by
 unfold cmpB
 by_cases c : bl a < bl b
 ·simp only [c, if_true]
  constructor
  ·intro h; omega
  ·rintro rfl; exact absurd c (List.lt_irrefl _)
 ·by_cases e : a = b <;> simp [c, e]
theorem cmpB_neg {a b : ByteArray} : cmpB a b < 0 ↔ bl a < bl b := by
 unfold cmpB
 by_cases c : bl a < bl b
 ·simp [c]
 ·by_cases e : a = b
  ·subst e; simp [List.lt_irrefl]
  ·simp [c, e]
theorem cmpI_zero {a b : Int} : cmpI a b = 0 ↔ a = b := by
 unfold cmpI
 by_cases c : a < b
 ·simp [c]; omega
 ·by_cases e : a = b <;> simp [c, e]
theorem cmpI_neg {a b : Int} : cmpI a b < 0 ↔ a < b := by
 unfold cmpI
 by_cases c : a < b
 ·simp [c]
 ·by_cases e : a = b <;> simp [c, e]
theorem less_same (x y : It) : lessI x y = rlessI x y := by
 unfold lessI rlessI ord ordL
 simp only [orL, ne_eq, cmpB_zero, cmpI_zero]
 by_cases c1 : x.1 = y.1
 rotate_left
 ·simp [c1, cmpB_neg]
 by_cases c2 : x.2.1 = y.2.1
 rotate_left
 ·simp [c1, c2, cmpB_neg]
 by_cases c3 : x.2.2.2.1 = y.2.2.2.1
 rotate_left
 ·simp [c1, c2, c3, cmpI_neg]
 by_cases c4 : x.2.2.2.2.1 = y.2.2.2.2.1
 rotate_left
 ·simp [c1, c2, c3, c4, cmpI_neg]
 by_cases c5 : x.2.2.2.2.2 = y.2.2.2.2.2
 rotate_left
 ·simp [c1, c2, c3, c4, c5, cmpI_neg]
 by_cases c6 : x.2.2.1 = y.2.2.1
 rotate_left
 ·simp [c1, c2, c3, c4, c5, c6, cmpI_neg]
 ·simp [c1, c2, c3, c4, c5, c6]
end
end Ge
namespace Ge
open Go Gx
noncomputable def DD (k : Nat) : CallF := mkC noC [e_lookup_order k noC, e_cmp_Less_string k noC, e_lookup_Less k noC]
theorem DD_sound (k : Nat) : CSound Go.Proofs.Tryd.prog 2 (DD k) :=
 mkC_sound noC_sound (EntsOk.more (ok_lookup_order noC_sound k) (EntsOk.more (ok_cmp_Less_string noC_sound k) (EntsOk.more (ok_lookup_Less noC_sound k) EntsOk.none)))
theorem dd_order {R : Type} {Q : R → Prop} {k : Nat} (hk : 100 ≤ k) {x y : It} {h : AHeap} {κ : Value → AHeap → Option R} {C : CallF} (hC : C = DD k) (kt : ∀ h', Keeps h h' → Gx.Wp (κ (.int .i64 (ord x y)) h') Q) :
  Gx.Wp (callD C (.func (.func 76) ⟨[]⟩ ⟨[]⟩) [.agg ⟨itC x⟩, .agg ⟨itC y⟩] h κ) Q := by
 subst hC
 show Gx.Wp ((lookup_order k noC x y h).bind fun r => κ (.int .i64 r.1) r.2) Q
 refine .call (order_spec noC hk x y h) fun r ⟨q1, q2⟩ => ?_
 rw [q1]; exact kt _ q2
section
variable {k : Nat} {h : AHeap} {s : Slc} {xs : List It}
theorem half {i j : Nat} (hi : i < j) (hj : j ≤ 1000000000) : IntKind.wrap .i64 (Int.fdiv (IntKind.wrap .u64 (IntKind.wrap .i64 ((i : Int) + (j : Int)))) 2) = (((i + j) / 2 : Nat) : Int) := by
 have e1 : IntKind.wrap .i64 ((i : Int) + (j : Int)) = ((i + j : Nat) : Int) := by rw [Gx.w64 _ (by omega)]; omega
 have e2 : IntKind.wrap .u64 ((i + j : Nat) : Int) = ((i + j : Nat) : Int) := Gx.wr_u64 _ (by omega) (by omega)
 rw [e1, e2, Int.fdiv_eq_ediv_of_nonneg _ (by omega), Gx.w64 _ (by omega)]
 omega
theorem search_spec (hk : 100 ≤ k) (hkx : xs.length + 10 ≤ k) (R : RowW 6 itC h s xs) (hl : xs.length ≤ 1000000000) (x : It) {p : Nat} (hp : p ≤ xs.length) (h1 : ∀ i y, i < p → xs[i]? = some y → ord y x < 0) (h2 : ∀ i y, p ≤ i → xs[i]? = some y → ¬ ord y x < 0) :
  Gx.Wp (slices_BinarySearchFunc_api_Item_api_Item_api_Item k (DD k) s x (.func (.func 76) ⟨[]⟩ ⟨[]⟩) h) fun z => z.1.1 = (p : Int) ∧ (z.1.2 = true ↔ ∃ y, xs[p]? = some y ∧ ord y x = 0) ∧ Keeps h z.2 := by
 simp only [slices_BinarySearchFunc_api_Item_api_Item_api_Item]
 refine Wp.newE fun H1 e1 k1 n1 g1 => Wp.jn fun j8 hj => ?_
 unfold slices_BinarySearchFunc_api_Item_api_Item_api_Item_l0
 obtain ⟨bot, eb⟩ := iterK_of (fun _ _ _ _ _ _ _ => none) (slices_BinarySearchFunc_api_Item_api_Item_api_Item_l0b k (DD k) j8) (show xs.length + 1 ≤ k by omega)
 rw [eb]
 have loop : ∀ (d i j : Nat) (H : AHeap), j - i ≤ d → i ≤ p → p ≤ j → j ≤ xs.length → Keeps H1 H →
   Gx.Wp (iterK bot (d + 1) (slices_BinarySearchFunc_api_Item_api_Item_api_Item_l0b k (DD k) j8) s (.func (.func 76) ⟨[]⟩ ⟨[]⟩) (some ⟨h.next, 0, none⟩) (s.len : Int) (i : Int) (j : Int) H) fun z => z.1.1 = (p : Int) ∧ (z.1.2 = true ↔ ∃ y, xs[p]? = some y ∧ ord y x = 0) ∧ Keeps h z.2 := fun d => by
  induction d with
  | zero =>
   intro i j H hd hi hj' hjl kp
   obtain rfl : i = p := by omega
   obtain rfl : j = i := by omega
   rw [iterK_s]; simp only [slices_BinarySearchFunc_api_Item_api_Item_api_Item_l0b]
   refine .ifn (by simp) ?_
   rw [hj]
   by_cases c : j < xs.length
   ·obtain ⟨y, hy⟩ := isome c
    obtain ⟨q, b1, b2, _⟩ := (R.keeps (k1.trans kp)).ld itC_len (by decide) hy
    have gt := kp.got (by omega) g1
    refine .ifp (by rw [R.len]; simp; omega) (.bnd b1 (.bnd b2 (.bnd (decI6 y) (.bnd rfl (.bnd (sldA_at gt rfl) (.bnd (decI6 x) (dd_order (x := y) (y := x) hk rfl fun h' k' => .bnd rfl (.of ⟨rfl, ?_, (k1.trans kp).trans k'⟩))))))))
    simp [hy]
   ·refine .ifn (by rw [R.len]; simp; omega) (.of ⟨rfl, ?_, k1.trans kp⟩)
    simp only [Bool.false_eq_true, false_iff, not_exists, not_and]
    intro y hy
    rw [List.getElem?_eq_none (by omega)] at hy; cases hy
  | succ d ih =>
   intro i j H hd hi hj' hjl kp
   rw [iterK_s]; simp only [slices_BinarySearchFunc_api_Item_api_Item_api_Item_l0b]
   by_cases c : i < j
   ·obtain ⟨y, hy⟩ := isome (l := xs) (i := (i + j) / 2) (by omega)
    obtain ⟨q, b1, b2, _⟩ := (R.keeps (k1.trans kp)).ld itC_len (by decide) hy
    have gt := kp.got (by omega) g1
    refine .ifp (by simp; omega) ?_
    rw [half c (by omega)]
    refine .bnd b1 (.bnd b2 (.bnd (decI6 y) (.bnd rfl (.bnd (sldA_at gt rfl) (.bnd (decI6 x) (dd_order (x := y) (y := x) hk rfl fun h' k' => .bnd rfl ?_))))))
    by_cases c2 : ord y x < 0
    ·refine .ifp (by simpa using c2) ?_
     rw [Gx.w1 (by omega)]
     refine ih _ j h' (by omega) ?_ hj' hjl (kp.trans k')
     rcases Nat.lt_or_ge ((i + j) / 2) p with g | g
     ·exact g
     ·exact absurd c2 (h2 _ y g hy)
    ·refine .ifn (by simpa using c2) ?_
     refine ih i _ h' (by omega) hi ?_ (by omega) (kp.trans k')
     rcases Nat.lt_or_ge ((i + j) / 2) p with g | g
     ·exact absurd (h1 _ y g hy) c2
     ·exact g
   ·have := ih i j H (by omega) hi hj' hjl kp
    cases d with
    | zero =>
     rw [iterK_s] at this; simp only [slices_BinarySearchFunc_api_Item_api_Item_api_Item_l0b] at this
     rw [if_neg (by simp; omega)] at this ⊢
     exact this
    | succ d =>
     rw [iterK_s] at this; simp only [slices_BinarySearchFunc_api_Item_api_Item_api_Item_l0b] at this
     rw [if_neg (by simp; omega)] at this ⊢
     exact this
 have := loop xs.length 0 xs.length H1 (by omega) (by omega) hp (Nat.le_refl _) (.refl _ _)
 have e : ((xs.length : Nat) : Int) = (s.len : Int) := by rw [R.len]
 rw [e] at this
 exact this
end
end Ge
namespace Ge
open Go Gx
structure SlotB (base : Nat) (h : AHeap) (tb b : Nat) (sp : Option Nat) (cap : Nat) (R : List Value) (s : Slc) (xs : List It) : Prop where
 s : s = ⟨some ⟨b, 0, sp⟩, xs.length, cap⟩
 blk : h.get b = some (.cells (xs.flatMap itC ++ R) 57 true 0)
 one : allOne R = true
 ge : base ≤ b
 lt : b < h.next
 ne : b ≠ tb
 le : xs.length ≤ cap
 room : cap * 6 ≤ xs.length * 6 + R.length
 sp : (sp = some 7 ∧ cap ≠ 0) ∨ (sp = some 0 ∧ cap = 0)
def SlotR (base : Nat) (h : AHeap) (tb : Nat) (s : Slc) (xs : List It) : Prop := (s = ⟨none, 0, 0⟩ ∧ xs = []) ∨ ∃ b sp cap R, SlotB base h tb b sp cap R s xs
section
variable {base tb : Nat} {h h' : AHeap} {s : Slc} {xs : List It}
theorem SlotR.chg {S : Nat → Prop} (A : SlotR base h tb s xs) (c : Chg S h h') (hs : ∀ a, s.a = some a → ¬ S a.block) : SlotR base h' tb s xs := by
 rcases A with A | ⟨b, sp, cap, R, A⟩
 ·exact .inl A
 ·exact .inr ⟨b, sp, cap, R, A.s, (c.oth b A.lt (hs ⟨b, 0, sp⟩ (by rw [A.s]))).trans A.blk, A.one, A.ge, Nat.lt_of_lt_of_le A.lt c.nx, A.ne, A.le, A.room, A.sp⟩
theorem SlotR.keeps (A : SlotR base h tb s xs) (c : Keeps h h') : SlotR base h' tb s xs := A.chg c fun _ _ f => f
theorem SlotR.len (A : SlotR base h tb s xs) : s.len = xs.length := by
 rcases A with ⟨rfl, rfl⟩ | ⟨b, sp, cap, R, A⟩
 ·rfl
 ·rw [A.s]
theorem flat_get {ys : List It} {R : List Value} {i : Nat} {x : It} (hx : ys[i]? = some x) (j : Nat) (v : Value) (hv : (itC x)[j]? = some v) : (ys.flatMap itC ++ R)[i * 6 + j]? = some v := by
 have := flatW_get itC_len hx j v hv
 rw [List.getElem?_append_left (List.getElem?_eq_some_iff.1 this).1]; exact this
theorem SlotR.row (A : SlotR base h tb s xs) : RowW 6 itC h s xs := by
 rcases A with ⟨rfl, rfl⟩ | ⟨b, sp, cap, R, A⟩
 ·exact RowW.nil _ _ _ _ _
 ·rw [A.s]
  exact ⟨rfl, fun i x hx => ⟨_, _, _, _, _, rfl, A.lt, A.blk, fun j v hv => by rw [Nat.zero_add]; exact flat_get hx j v hv⟩⟩
theorem SlotR.own (A : SlotR base h tb s xs) : ∀ a, s.a = some a → base ≤ a.block ∧ a.block < h.next ∧ a.block ≠ tb := by
 rcases A with ⟨rfl, rfl⟩ | ⟨b, sp, cap, R, A⟩
 ·intro a ha; cases ha
 ·intro a ha; rw [A.s] at ha; cases ha; exact ⟨A.ge, A.lt, A.ne⟩
theorem flat_len (ys : List It) : (ys.flatMap itC).length = ys.length * 6 := flatW_length itC_len ys
theorem flat_take (ys : List It) : ∀ p, (ys.flatMap itC).take (p * 6) = (ys.take p).flatMap itC
 | 0 => by simp
 | p + 1 => by
  cases ys with
  | nil => simp
  | cons y ys =>
   have e : (p + 1) * 6 = (itC y).length + p * 6 := by rw [itC_len]; omega
   rw [List.flatMap_cons, e, List.take_length_add_append, flat_take ys p]
   simp
theorem flat_drop (ys : List It) : ∀ p, (ys.flatMap itC).drop (p * 6) = (ys.drop p).flatMap itC
 | 0 => by simp
 | p + 1 => by
  cases ys with
  | nil => simp
  | cons y ys =>
   have e : (p + 1) * 6 = (itC y).length + p * 6 := by rw [itC_len]; omega
   rw [List.flatMap_cons, e, List.drop_length_add_append, flat_drop ys p]
   simp
theorem flat_one (ys : List It) : allOne (ys.flatMap itC) = true := flatW_one itC_one ys
theorem ins_spec (k : Nat) (D : CallF) (A : SlotR base h tb s xs) (hb : base ≤ h.next) (htb : tb < h.next) (x : It) {p : Nat} (hp : p ≤ xs.length) (hl : xs.length ≤ 1000000000) {vb : Nat} (hv : h.get vb = some (.cells (itC x) 57 true 0)) (_hvl : vb < h.next) (hne : ∀ a, s.a = some a → a.block ≠ vb) :
  ∃ s' h', slices_Insert_api_Item_api_Item k D s (p : Int) ⟨some ⟨vb, 0, some 0⟩, 1, 1⟩ h = some (s', h') ∧ SlotR base h' tb s' (xs.take p ++ x :: xs.drop p) ∧ Chg (ofS s) h h' ∧ ∀ a, s'.a = some a → h.next ≤ a.block ∨ ∃ b, s.a = some b ∧ b.block = a.block := by
 have er : rdS 6 (⟨some ⟨vb, 0, some 0⟩, 1, 1⟩ : Slc) h = some (itC x) := by
  simp only [rdS]
  rw [rdL_ok hv (by simp [itC])]
  rfl
 have F : slices_Insert_api_Item_api_Item0 k D = insF 6 64 57 [.string ⟨#[]⟩, .string ⟨#[]⟩, .int .i64 0, .int .i64 0, .int .i64 0, .int .i64 0] := f_slices_Insert_api_Item_api_Item0 k D
 simp only [slices_Insert_api_Item_api_Item]
 rw [F]
 rcases A with ⟨rfl, rfl⟩ | ⟨b, sp, cap, R, A⟩
 ·have hp0 : p = 0 := by simpa using hp
  subst hp0
  have e0 : insOk 6 64 57 (⟨none, 0, 0⟩ : Slc) ((0 : Nat) : Int) (⟨some ⟨vb, 0, some 0⟩, 1, 1⟩ : Slc) h = none := rfl
  refine ⟨⟨some ⟨h.next, 0, some 7⟩, 1, 1⟩, h.new (.cells (itC x) 57 true 0), ?_, .inr ⟨h.next, some 7, 1, [], by simp, by simp, rfl, hb, by simp, by omega, by simp, by simp, .inl ⟨rfl, by decide⟩⟩, Chg.new _ _, fun a ha => by cases ha; exact .inl (Nat.le_refl _)⟩
  unfold insA
  rw [e0]
  unfold insF
  have e1 : Gx.subL 6 (⟨none, 0, 0⟩ : Slc) (some ((0 : Nat) : Int)) none none = some ⟨none, 0, 0⟩ := rfl
  rw [e1, Option.bind_some, if_neg (by simp), if_pos (by simp), er, Option.bind_some]
  rfl
 ·have hs := A.s
  by_cases hpe : p = xs.length
  ·-- behind all
   subst hpe
   have e0 : insOk 6 64 57 s ((xs.length : Nat) : Int) (⟨some ⟨vb, 0, some 0⟩, 1, 1⟩ : Slc) h = none := by
    rw [hs]
    unfold insOk
    simp only [A.blk, hv]
    rw [if_neg]
    intro q
    have := q.2.2.2.2.2.2.1
    omega
   have e1 : Gx.subL 6 s (some ((xs.length : Nat) : Int)) none none ≠ none := by
    rw [hs]
    have hsp : spOk sp 6 = true := by rcases A.sp with ⟨rfl, _⟩ | ⟨rfl, _⟩ <;> rfl
    have := A.le
    simp only [Gx.subL, Option.getD_none, Option.getD_some, hsp, if_true]
    rw [if_pos (by omega)]
    simp
   obtain ⟨t1, e1⟩ := Option.ne_none_iff_exists'.1 e1
   rw [List.take_length, List.drop_length]
   have run : ∀ {s' : Slc} {h' : AHeap}, appendA 6 64 57 h s (itC x) 1 = some (s', h') → insA 6 64 57 (insF 6 64 57 [.string ⟨#[]⟩, .string ⟨#[]⟩, .int .i64 0, .int .i64 0, .int .i64 0, .int .i64 0]) s ((xs.length : Nat) : Int) ⟨some ⟨vb, 0, some 0⟩, 1, 1⟩ h = some (s', h') := fun ea => by
    unfold insA
    rw [e0]
    unfold insF
    rw [e1, Option.bind_some, if_neg (by simp), if_pos (by rw [hs]; simp), er, Option.bind_some, ea]
    rfl
   have efl : (xs ++ [x]).flatMap itC = xs.flatMap itC ++ itC x := by simp
   by_cases hroom : xs.length + 1 ≤ cap
   ·-- in place
    have hRl : 6 ≤ R.length := by have := A.room; omega
    have hw : h.wrL b (xs.length * 6) (itC x) = some (h.set b (.cells (splice (xs.flatMap itC ++ R) (xs.length * 6) (itC x)) 57 true 0)) :=
     wrL_ok A.blk (by rw [List.length_append, flat_len, itC_len]; omega) rfl (by simp [itC])
    have esp : splice (xs.flatMap itC ++ R) (xs.length * 6) (itC x) = (xs ++ [x]).flatMap itC ++ R.drop 6 := by
     unfold splice
     rw [itC_len, ← flat_len xs, List.take_left, List.drop_append, List.drop_of_length_le (by omega), efl]
     simp
    refine ⟨⟨some ⟨b, 0, sp⟩, xs.length + 1, cap⟩, h.set b (.cells ((xs ++ [x]).flatMap itC ++ R.drop 6) 57 true 0), run ?_, .inr ⟨b, sp, cap, R.drop 6, by simp, by simp, ?_, A.ge, by simpa using A.lt, A.ne, by simp; omega, ?_, A.sp⟩, Chg.set (.inr ⟨⟨b, 0, sp⟩, by rw [hs], rfl⟩), fun a ha => by cases ha; exact .inr ⟨⟨b, 0, sp⟩, by rw [hs], rfl⟩⟩
    ·rw [hs]
     unfold appendA
     simp only
     rw [if_pos (by omega), if_neg (by decide), Nat.zero_add, hw, esp]
     rfl
    ·exact allOne_sub A.one fun v hv => List.mem_of_mem_drop hv
    ·rw [List.length_drop]; have := A.room; simp; omega
   ·-- elsewhere
    have hcap : cap = xs.length := by have := A.le; omega
    refine ⟨⟨some ⟨h.next, 0, some 7⟩, xs.length + 1, xs.length + 1⟩, (if cap = 0 then h else h.kill b).new (.cells ((xs ++ [x]).flatMap itC) 57 true 0), run ?_, .inr ⟨h.next, some 7, xs.length + 1, [], by simp, ?_, rfl, hb, ?_, by omega, by simp, by simp, .inl ⟨rfl, by omega⟩⟩, ?_, fun a ha => by cases ha; exact .inl (Nat.le_refl _)⟩
    ·rw [hs]
     unfold appendA
     simp only
     rw [if_neg (by omega), if_pos (by omega)]
     rcases A.sp with ⟨rfl, h0⟩ | ⟨rfl, h0⟩
     ·simp only [A.blk]
      rw [if_pos ⟨h0, trivial, by rw [List.length_append, flat_len]; omega, Nat.zero_le _, trivial, trivial, rfl⟩, if_neg h0, ← flat_len xs, List.take_left, efl]
     ·have hx0 : xs = [] := List.length_eq_zero_iff.1 (by omega)
      subst hx0
      simp [AHeap.rdL, h0]
    ·split <;> simp
    ·split <;> simp
    ·by_cases h0 : cap = 0
     ·rw [if_pos h0]; exact Chg.new _ _
     ·rw [if_neg h0]; exact Chg.kill_new (.inr ⟨⟨b, 0, sp⟩, by rw [hs], rfl⟩)
  ·-- in between
   have hpl : p < xs.length := by omega
   have hcap : cap ≠ 0 := by have := A.le; omega
   have hsp : sp = some 7 := by rcases A.sp with ⟨e, _⟩ | ⟨_, e⟩; exact e; exact absurd e hcap
   subst hsp
   have htk : (xs.flatMap itC ++ R).take (xs.length * 6) = xs.flatMap itC := by rw [← flat_len xs, List.take_left]
   have e0 : insOk 6 64 57 s (p : Int) (⟨some ⟨vb, 0, some 0⟩, 1, 1⟩ : Slc) h = some (xs.flatMap itC ++ R, itC x, b, vb) := by
    rw [hs]
    unfold insOk
    simp only [A.blk, hv]
    rw [if_pos]
    refine ⟨hne ⟨b, 0, some 7⟩ (by rw [hs]), trivial, trivial, trivial, trivial, by omega, by omega, by rw [List.length_append, flat_len]; omega, trivial, by simp [itC], by decide, rfl, ?_, by omega, by decide, A.le⟩
    rw [htk]; exact flat_one xs
   refine ⟨⟨some ⟨h.next, 0, some 7⟩, xs.length + 1, xs.length + 1⟩, (h.kill b).new (.cells ((xs.take p ++ x :: xs.drop p).flatMap itC) 57 true 0), ?_, .inr ⟨h.next, some 7, xs.length + 1, [], by simp; omega, by simp, rfl, hb, by simp, by omega, by simp; omega, by simp; omega, .inl ⟨rfl, by omega⟩⟩, Chg.kill_new (.inr ⟨⟨b, 0, some 7⟩, by rw [hs], rfl⟩), fun a ha => by cases ha; exact .inl (Nat.le_refl _)⟩
   unfold insA
   rw [e0]
   have ei : insC 6 (xs.flatMap itC ++ R) (itC x) xs.length p = (xs.take p ++ x :: xs.drop p).flatMap itC := by
    unfold insC
    rw [htk, List.take_append_of_le_length (by rw [flat_len]; omega), flat_take, flat_drop]
    simp [itC]
   simp only [hs, Int.toNat_natCast, ei]
end
end Ge
namespace Ge
open Go Gx
def Lx {α β : Type} (lt : α → α → Prop) (R : β → β → Prop) (x y : α × β) : Prop := lt x.1 y.1 ∨ x.1 = y.1 ∧ R x.2 y.2
theorem Lx.trans {α β : Type} {lt : α → α → Prop} {R : β → β → Prop} (h1 : ∀ a b c, lt a b → lt b c → lt a c) (h2 : ∀ a b c, R a b → R b c → R a c) : ∀ x y z : α × β, Lx lt R x y → Lx lt R y z → Lx lt R x z := by
 rintro ⟨a, b⟩ ⟨c, d⟩ ⟨e, f⟩ (p | ⟨p, p'⟩) (q | ⟨q, q'⟩)
 ·exact .inl (h1 _ _ _ p q)
 ·simp only at q p; subst q; exact .inl p
 ·simp only at q p; subst p; exact .inl q
 ·simp only at q p; subst p; subst q; exact .inr ⟨rfl, h2 _ _ _ p' q'⟩
theorem Lx.total {α β : Type} {lt : α → α → Prop} {R : β → β → Prop} (h1 : ∀ a b, lt a b ∨ a = b ∨ lt b a) (h2 : ∀ a b, R a b ∨ a = b ∨ R b a) : ∀ x y : α × β, Lx lt R x y ∨ x = y ∨ Lx lt R y x := by
 rintro ⟨a, b⟩ ⟨c, d⟩
 rcases h1 a c with h | h | h
 ·exact .inl (.inl h)
 ·subst h
  rcases h2 b d with g | g | g
  ·exact .inl (.inr ⟨rfl, g⟩)
  ·subst g; exact .inr (.inl rfl)
  ·exact .inr (.inr (.inr ⟨rfl, g⟩))
 ·exact .inr (.inr (.inl h))
def ltB (a b : ByteArray) : Prop := bl a < bl b
theorem ltB_trans (a b c : ByteArray) (h1 : ltB a b) (h2 : ltB b c) : ltB a c := List.lt_trans h1 h2
theorem ltB_total (a b : ByteArray) : ltB a b ∨ a = b ∨ ltB b a := by
 by_cases c : bl a < bl b
 ·exact .inl c
 ·by_cases d : bl b < bl a
  ·exact .inr (.inr d)
  ·exact .inr (.inl (bl_inj (List.le_antisymm (List.not_lt.1 d) (List.not_lt.1 c))))
def ltZ (a b : Int) : Prop := a < b
theorem ltZ_trans (a b c : Int) (h1 : ltZ a b) (h2 : ltZ b c) : ltZ a c := Int.lt_trans h1 h2
theorem ltZ_total (a b : Int) : ltZ a b ∨ a = b ∨ ltZ b a := by unfold ltZ; omega
def keyI (x : It) : ByteArray × ByteArray × Int × Int × Int × Int := (x.1, x.2.1, x.2.2.2.1, x.2.2.2.2.1, x.2.2.2.2.2, x.2.2.1)
theorem keyI_inj {x y : It} (h : keyI x = keyI y) : x = y := by
 obtain ⟨a, b, c, d, e, f⟩ := x
 obtain ⟨a', b', c', d', e', f'⟩ := y
 simp only [keyI, Prod.mk.injEq] at h
 obtain ⟨rfl, rfl, rfl, rfl, rfl, rfl⟩ := h
 rfl
def ltI : ByteArray × ByteArray × Int × Int × Int × Int → ByteArray × ByteArray × Int × Int × Int × Int → Prop := Lx ltB (Lx ltB (Lx ltZ (Lx ltZ (Lx ltZ ltZ))))
theorem lessI_iff (x y : It) : lessI x y = true ↔ ltI (keyI x) (keyI y) := by
 rw [less_same]
 unfold rlessI ltI Lx keyI ltB ltZ
 simp only
 by_cases c1 : x.1 = y.1
 rotate_left
 ·simp [c1]
 by_cases c2 : x.2.1 = y.2.1
 rotate_left
 ·simp [c1, c2, List.lt_irrefl]
 by_cases c3 : x.2.2.2.1 = y.2.2.2.1
 rotate_left
 ·simp [c1, c2, c3, List.lt_irrefl]
 by_cases c4 : x.2.2.2.2.1 = y.2.2.2.2.1
 rotate_left
 ·simp [c1, c2, c3, c4, List.lt_irrefl]
 by_cases c5 : x.2.2.2.2.2 = y.2.2.2.2.2
 rotate_left
 ·simp [c1, c2, c3, c4, c5, List.lt_irrefl]
 simp [c1, c2, c3, c4, c5, List.lt_irrefl]
theorem lessI_trans {x y z : It} (h1 : lessI x y = true) (h2 : lessI y z = true) : lessI x z = true := by
 rw [lessI_iff] at *
 exact Lx.trans ltB_trans (Lx.trans ltB_trans (Lx.trans ltZ_trans (Lx.trans ltZ_trans (Lx.trans ltZ_trans ltZ_trans)))) _ _ _ h1 h2
theorem lessI_total (x y : It) : lessI x y = true ∨ x = y ∨ lessI y x = true := by
 rw [lessI_iff, lessI_iff]
 rcases Lx.total ltB_total (Lx.total ltB_total (Lx.total ltZ_total (Lx.total ltZ_total (Lx.total ltZ_total ltZ_total)))) (keyI x) (keyI y) with h | h | h
 ·exact .inl h
 ·exact .inr (.inl (keyI_inj h))
 ·exact .inr (.inr h)
theorem ord_zero {x y : It} : ord x y = 0 ↔ x = y := by
 constructor
 ·intro h
  have e : ∀ (c : Int) (l : List Int), orL (c :: l) = 0 → c = 0 ∧ orL l = 0 := fun c l h => by
   simp only [orL] at h
   by_cases hc : c = 0
   ·simp [hc] at h; exact ⟨hc, h⟩
   ·simp [hc] at h
  unfold ord ordL at h
  obtain ⟨a1, h⟩ := e _ _ h
  obtain ⟨a2, h⟩ := e _ _ h
  obtain ⟨a3, h⟩ := e _ _ h
  obtain ⟨a4, h⟩ := e _ _ h
  obtain ⟨a5, h⟩ := e _ _ h
  obtain ⟨a6, h⟩ := e _ _ h
  rw [cmpB_zero] at a1 a2
  rw [cmpI_zero] at a3 a4 a5 a6
  exact keyI_inj (by simp [keyI, a1, a2, a3, a4, a5, a6])
 ·rintro rfl
  have b : ∀ a : ByteArray, cmpB a a = 0 := fun a => cmpB_zero.2 rfl
  have i : ∀ a : Int, cmpI a a = 0 := fun a => cmpI_zero.2 rfl
  simp [ord, ordL, orL, b, i]
theorem lessI_irrefl (x : It) : lessI x x = false := by
 have : ord x x = 0 := ord_zero.2 rfl
 simp [lessI, this]
def Rises (xs : List It) : Prop := xs.Pairwise fun x y => lessI x y = true
def posI (x : It) (xs : List It) : Nat := (xs.takeWhile fun y => lessI y x).length
open Classical in
noncomputable def putI (x : It) (xs : List It) : List It := if x ∈ xs then xs else (xs.takeWhile fun y => lessI y x) ++ x :: xs.dropWhile fun y => lessI y x
theorem posI_le (x : It) (xs : List It) : posI x xs ≤ xs.length := by
 unfold posI
 exact (List.takeWhile_sublist _).length_le
theorem take_pos (x : It) (xs : List It) : xs.take (posI x xs) = xs.takeWhile fun y => lessI y x := by
 unfold posI
 induction xs with
 | nil => rfl
 | cons y xs ih =>
  by_cases c : lessI y x = true
  ·simp [c, ih]
  ·simp [c]
theorem drop_pos (x : It) (xs : List It) : xs.drop (posI x xs) = xs.dropWhile fun y => lessI y x := by
 unfold posI
 induction xs with
 | nil => rfl
 | cons y xs ih =>
  by_cases c : lessI y x = true
  ·simp [c, ih]
  ·simp [c]
theorem pos_ahead {x : It} : ∀ {xs : List It} {i : Nat} {y : It}, i < posI x xs → xs[i]? = some y → lessI y x = true
 | [], i, y, h, _ => by simp [posI] at h
 | z :: xs, i, y, h, hy => by
  unfold posI at h
  by_cases c : lessI z x = true
  ·simp only [List.takeWhile_cons, c, if_true, List.length_cons] at h
   cases i with
   | zero => simp at hy; subst hy; exact c
   | succ i => exact pos_ahead (xs := xs) (i := i) (by unfold posI; omega) (by simpa using hy)
  ·simp [c] at h
theorem pos_behind {x : It} : ∀ {xs : List It} {i : Nat} {y : It}, Rises xs → posI x xs ≤ i → xs[i]? = some y → lessI y x = false
 | [], i, y, _, _, hy => by simp at hy
 | z :: xs, i, y, hr, h, hy => by
  unfold posI at h
  unfold Rises at hr
  rw [List.pairwise_cons] at hr
  by_cases c : lessI z x = true
  ·simp only [List.takeWhile_cons, c, if_true, List.length_cons] at h
   cases i with
   | zero => omega
   | succ i => exact pos_behind (xs := xs) (i := i) hr.2 (by unfold posI; omega) (by simpa using hy)
  ·have c' : lessI z x = false := by simpa using c
   cases i with
   | zero => simp at hy; subst hy; exact c'
   | succ i =>
    have hz := hr.1 y (List.mem_of_getElem? (by simpa using hy))
    cases d : lessI y x
    ·rfl
    ·rw [lessI_trans hz d] at c'; cases c'
theorem pos_found {x : It} {xs : List It} (hr : Rises xs) : (∃ y, xs[posI x xs]? = some y ∧ ord y x = 0) ↔ x ∈ xs := by
 constructor
 ·rintro ⟨y, hy, h⟩
  rw [ord_zero] at h
  subst h
  exact List.mem_of_getElem? hy
 ·intro hx
  obtain ⟨i, hi, e⟩ := List.getElem_of_mem hx
  have hx' : xs[i]? = some x := by rw [← e]; exact List.getElem?_eq_getElem hi
  have h1 : posI x xs ≤ i := Nat.le_of_not_lt fun q => by
   have := pos_ahead q hx'
   rw [lessI_irrefl] at this; cases this
  have hlt : posI x xs < xs.length := by omega
  obtain ⟨y, hy⟩ := isome hlt
  refine ⟨y, hy, ord_zero.2 ?_⟩
  by_cases e2 : posI x xs = i
  ·rw [e2, hx'] at hy; cases hy; rfl
  ·have hlt2 : posI x xs < i := by omega
   have hyx : lessI y x = true := by
    have hp := List.pairwise_iff_getElem.1 hr (posI x xs) i hlt (by omega) hlt2
    have e3 : xs[posI x xs] = y := (List.getElem?_eq_some_iff.1 hy).2
    rw [e3, e] at hp; exact hp
   rw [pos_behind hr (Nat.le_refl _) hy] at hyx; cases hyx
theorem put_rises {x : It} {xs : List It} (hr : Rises xs) : Rises (putI x xs) := by
 unfold putI
 split
 ·exact hr
 ·rename_i hx
  have ht : ∀ y ∈ xs.takeWhile (fun y => lessI y x), lessI y x = true := fun y hy => by
   rw [← take_pos] at hy
   obtain ⟨i, hi, e⟩ := List.getElem_of_mem hy
   have : (xs.take (posI x xs))[i]? = some y := by rw [← e]; exact List.getElem?_eq_getElem hi
   rw [List.getElem?_take] at this
   split at this
   ·rename_i hlt; exact pos_ahead hlt this
   ·cases this
  have hd : ∀ y ∈ xs.dropWhile (fun y => lessI y x), lessI x y = true := fun y hy => by
   rw [← drop_pos] at hy
   obtain ⟨i, hi, e⟩ := List.getElem_of_mem hy
   have h1 : (xs.drop (posI x xs))[i]? = some y := by rw [← e]; exact List.getElem?_eq_getElem hi
   rw [List.getElem?_drop] at h1
   have h2 := pos_behind hr (Nat.le_add_right _ _) h1
   rcases lessI_total x y with h | h | h
   ·exact h
   ·subst h; exact absurd (List.mem_of_getElem? h1) hx
   ·rw [h] at h2; cases h2
  unfold Rises at hr ⊢
  rw [List.pairwise_append, List.pairwise_cons]
  refine ⟨hr.sublist (List.takeWhile_sublist _), ⟨hd, hr.sublist (List.dropWhile_sublist _)⟩, fun a ha b hb => ?_⟩
  rcases List.mem_cons.1 hb with rfl | hb
  ·exact ht a ha
  ·exact lessI_trans (ht a ha) (hd b hb)
theorem put_len (x : It) (xs : List It) : (putI x xs).length ≤ xs.length + 1 := by
 unfold putI
 split
 ·omega
 ·have e := congrArg List.length (List.takeWhile_append_dropWhile (p := fun y => lessI y x) (l := xs))
  simp only [List.length_append, List.length_cons] at e ⊢
  omega
end Ge
namespace Ge
open Go Gx
def idx (id : ByteArray) : Nat := match bl id with
 | [] => 0
 | b :: _ => b.toNat
theorem idx_lt (id : ByteArray) : idx id < 256 := by
 unfold idx
 split
 ·omega
 ·rename_i b _ _; exact b.toNat_lt
def tabC (sl : Nat → Slc) : List Value := (List.range 256).map fun i => .slice (sl i).a (sl i).len (sl i).cap
theorem tabC_len (sl : Nat → Slc) : (tabC sl).length = 256 := by simp [tabC]
theorem tabC_get (sl : Nat → Slc) {i : Nat} (hi : i < 256) : (tabC sl)[i]? = some (.slice (sl i).a (sl i).len (sl i).cap) := by simp [tabC, hi]
def upd {α : Type} (f : Nat → α) (i : Nat) (x : α) : Nat → α := fun j => if j = i then x else f j
theorem tabC_set (sl : Nat → Slc) {i : Nat} (s : Slc) : (tabC sl).set i (.slice s.a s.len s.cap) = tabC (upd sl i s) := by
 apply List.ext_getElem?
 intro j
 rw [List.getElem?_set, tabC_len]
 by_cases hj : j < 256
 ·rw [tabC_get _ hj, tabC_get _ hj]
  by_cases e : i = j
  ·subst e; simp [hj, upd]
  ·simp [e, upd, Ne.symm e]
 ·rw [List.getElem?_eq_none (l := tabC sl) (by rw [tabC_len]; omega), List.getElem?_eq_none (l := tabC _) (by rw [tabC_len]; omega)]
  split <;> simp_all
def TOwn (tb : Nat) (sl : Nat → Slc) (y : Nat) : Prop := y = tb ∨ ∃ i, i < 256 ∧ ∃ a, (sl i).a = some a ∧ a.block = y
structure Tab (base : Nat) (h : AHeap) (tb : Nat) (sl : Nat → Slc) (F : Nat → List It) : Prop where
 blk : h.get tb = some (.cells (tabC sl) 125 true 0)
 lt : tb < h.next
 ge : base ≤ tb
 slot : ∀ i, i < 256 → SlotR base h tb (sl i) (F i)
 apart : ∀ i j a b, i < 256 → j < 256 → i ≠ j → (sl i).a = some a → (sl j).a = some b → a.block ≠ b.block
section
variable {base tb : Nat} {h h' : AHeap} {sl : Nat → Slc} {F : Nat → List It}
theorem Tab.own (T : Tab base h tb sl F) {y : Nat} (hy : TOwn tb sl y) : base ≤ y ∧ y < h.next := by
 rcases hy with rfl | ⟨i, hi, a, ha, rfl⟩
 ·exact ⟨T.ge, T.lt⟩
 ·have := (T.slot i hi).own a ha; exact ⟨this.1, this.2.1⟩
theorem Tab.chg {S : Nat → Prop} (T : Tab base h tb sl F) (c : Chg S h h') (hs : ∀ y, TOwn tb sl y → ¬ S y) : Tab base h' tb sl F :=
 ⟨(c.oth tb T.lt (hs tb (.inl rfl))).trans T.blk, Nat.lt_of_lt_of_le T.lt c.nx, T.ge, fun i hi => (T.slot i hi).chg c fun a ha => hs _ (.inr ⟨i, hi, a, ha, rfl⟩), T.apart⟩
theorem Tab.keeps (T : Tab base h tb sl F) (c : Keeps h h') : Tab base h' tb sl F := T.chg c fun _ _ f => f
theorem Tab.ext {G : Nat → List It} (T : Tab base h tb sl F) (e : ∀ i, i < 256 → F i = G i) : Tab base h tb sl G := ⟨T.blk, T.lt, T.ge, fun i hi => e i hi ▸ T.slot i hi, T.apart⟩
theorem tabC_new : List.replicate 256 (Value.slice none 0 0) = tabC fun _ => ⟨none, 0, 0⟩ := by
 apply List.ext_getElem?
 intro j
 rw [List.getElem?_replicate]
 by_cases hj : j < 256
 ·rw [tabC_get _ hj, if_pos hj]
 ·rw [if_neg hj, List.getElem?_eq_none (by rw [tabC_len]; omega)]
theorem new_spec (k : Nat) (D : CallF) (h : AHeap) : ∃ h', lookup_New k D h = some (some ⟨h.next, 0, none⟩, h') ∧ Keeps h h' ∧ Tab h.next h' h.next (fun _ => ⟨none, 0, 0⟩) (fun _ => []) := by
 unfold lookup_New
 rw [tabC_new]
 exact ⟨_, rfl, Keeps.new h _, by simp, by simp, Nat.le_refl _, fun i _ => .inl ⟨rfl, rfl⟩, fun i j a b _ _ _ ha => by cases ha⟩
theorem list_spec (k : Nat) (D : CallF) (tb : Nat) (id : ByteArray) (h : AHeap) : lookup_Table_list k D (some ⟨tb, 0, none⟩) id h = some (some ⟨tb, idx id, none⟩, h) := by
 simp only [lookup_Table_list, beq_ba]
 by_cases c : id = ⟨#[]⟩
 ·subst c
  rw [if_pos (by simp)]
  rfl
 ·rw [if_neg (by simp [c])]
  obtain ⟨b, t, e⟩ : ∃ b t, bl id = b :: t := List.exists_cons_of_ne_nil fun e => c (bl_inj (by rw [e]; rfl))
  have e1 : idxS id ((0 : Nat) : Int) = some (b.toNat : Int) := idxS_of (by rw [e]; rfl)
  have e2 : idx id = b.toNat := by unfold idx; rw [e]
  have e3 : idxA 256 1 ⟨tb, 0 + 0, none⟩ (b.toNat : Int) = some ⟨tb, 0 + 0 + b.toNat, none⟩ := sidxA0 b.toNat_lt
  refine bnd e1 (bnd rfl (bnd e3 ?_))
  rw [e2]; simp
theorem Tab.slotT {s' : Slc} {xs : List It} {i : Nat} (T : Tab base h tb sl F) (hi : i < 256) (c : Chg (ofS (sl i)) h h') (A : SlotR base h' tb s' xs) (hs : ∀ a, s'.a = some a → h.next ≤ a.block ∨ ∃ b, (sl i).a = some b ∧ b.block = a.block) :
  ∃ h2, st1 ⟨tb, i, none⟩ (.slice s'.a s'.len s'.cap) h' = some h2 ∧ Tab base h2 tb (upd sl i s') (upd F i xs) ∧ Chg (TOwn tb sl) h h2 ∧ ∀ y, TOwn tb (upd sl i s') y → h.next ≤ y ∨ TOwn tb sl y := by
 have htb : ¬ ofS (sl i) tb := fun ⟨a, ha, e⟩ => ((T.slot i hi).own a ha).2.2 e.symm
 have gb : h'.get tb = some (.cells (tabC sl) 125 true 0) := (c.oth tb T.lt htb).trans T.blk
 have e1 := st1_of (sp := none) (v := .slice s'.a s'.len s'.cap) gb (o := i) (by rw [tabC_len]; exact hi) rfl
 rw [tabC_set] at e1
 have nx := c.nx
 have c2 : Chg (· = tb) h' (h'.set tb (.cells (tabC (upd sl i s')) 125 true 0)) := Chg.set (.inr rfl)
 have own' : ∀ j, j < 256 → j ≠ i → ∀ a, (sl j).a = some a → ∀ b, s'.a = some b → a.block ≠ b.block := fun j hj hji a ha b hb => by
  have o1 := (T.slot j hj).own a ha
  rcases hs b hb with h1 | ⟨b2, h1, h2⟩
  ·omega
  ·rw [← h2]; exact T.apart j i a b2 hj hi hji ha h1
 refine ⟨_, e1, ⟨by simp, Nat.lt_of_lt_of_le T.lt nx, T.ge, fun j hj => ?_, fun j l a b hj hl hjl ha hb => ?_⟩, ?_, ?_⟩
 ·by_cases e : j = i
  ·subst e
   simp only [upd, if_true]
   exact A.chg c2 fun a ha e2 => (A.own a ha).2.2 e2
  ·simp only [upd, e, if_false]
   refine ((T.slot j hj).chg c fun a ha ⟨b, hb, e2⟩ => T.apart j i a b hj hi e ha hb e2).chg c2 fun a ha e2 => ((T.slot j hj).own a ha).2.2 e2
 ·simp only [upd] at ha hb
  by_cases e : j = i
  ·have el : l ≠ i := fun q => hjl (e.trans q.symm)
   rw [if_pos e] at ha; rw [if_neg el] at hb
   exact Ne.symm (own' l hl el b hb a ha)
  ·rw [if_neg e] at ha
   by_cases e2 : l = i
   ·rw [if_pos e2] at hb; exact own' j hj e a ha b hb
   ·rw [if_neg e2] at hb; exact T.apart j l a b hj hl hjl ha hb
 ·refine Chg.beh (T := (· = tb)) (c.wk fun y _ ⟨a, ha, e⟩ => .inr ⟨i, hi, a, ha, e.symm⟩) c2 fun y _ e => .inl e
 ·rintro y (rfl | ⟨j, hj, a, ha, rfl⟩)
  ·exact .inr (.inl rfl)
  ·simp only [upd] at ha
   by_cases e : j = i
   ·rw [if_pos e] at ha
    rcases hs a ha with h1 | ⟨b, h1, h2⟩
    ·exact .inl h1
    ·exact .inr (.inr ⟨i, hi, b, h1, h2⟩)
   ·rw [if_neg e] at ha
    exact .inr (.inr ⟨j, hj, a, ha, rfl⟩)
end
noncomputable def addF (F : Nat → List It) (x : It) : Nat → List It := upd F (idx x.1) (putI x (F (idx x.1)))
def RisesT (F : Nat → List It) : Prop := ∀ i, i < 256 → Rises (F i)
theorem addF_rises {F : Nat → List It} (hr : RisesT F) (x : It) : RisesT (addF F x) := fun i hi => by
 unfold addF upd
 split
 ·exact put_rises (hr _ (idx_lt _))
 ·exact hr i hi
def MaxT (F : Nat → List It) (n : Nat) : Prop := ∀ i, i < 256 → (F i).length ≤ n
theorem addF_max {F : Nat → List It} {n : Nat} (hm : MaxT F n) (x : It) : MaxT (addF F x) (n + 1) := fun i hi => by
 unfold addF upd
 split
 ·exact Nat.le_trans (put_len _ _) (by have := hm _ (idx_lt x.1); omega)
 ·have := hm i hi; omega
noncomputable def addL (F : Nat → List It) (xs : List It) : Nat → List It := xs.foldl addF F
theorem addL_rises : ∀ {xs : List It} {F : Nat → List It}, RisesT F → RisesT (addL F xs)
 | [], _, h => h
 | x :: xs, _, h => addL_rises (xs := xs) (addF_rises h x)
theorem addL_max : ∀ {xs : List It} {F : Nat → List It} {n : Nat}, MaxT F n → MaxT (addL F xs) (n + xs.length)
 | [], _, _, h => h
 | x :: xs, F, n, h => by
  have := addL_max (xs := xs) (addF_max h x)
  rw [List.length_cons, show n + (xs.length + 1) = n + 1 + xs.length by omega]; exact this
section
variable {k base tb : Nat} {h : AHeap} {sl : Nat → Slc} {F : Nat → List It} {s : Slc} {xs : List It}
theorem add_l0 (hk : 100 ≤ k) (bot) (j : AHeap → Option (Int × AHeap)) {Q : Int × AHeap → Prop} (R : RowW 6 itC h s xs) {N : Nat} (hN : N + xs.length ≤ 1000000000) (hkN : N + xs.length + 10 ≤ k) (hs : ∀ a, s.a = some a → ¬ TOwn tb sl a.block) (hb : base ≤ h.next)
  (hj : ∀ H sl', Tab base H tb sl' (addL F xs) → Chg (TOwn tb sl) h H → (∀ y, TOwn tb sl' y → h.next ≤ y ∨ TOwn tb sl y) → Gx.Wp (j H) Q) (_T : Tab base h tb sl F) (hr : RisesT F) (hm : MaxT F N) :
  ∀ (d i : Nat) (H : AHeap) (sl' : Nat → Slc), i + d = xs.length → Tab base H tb sl' (addL F (xs.take i)) → Chg (TOwn tb sl) h H → (∀ y, TOwn tb sl' y → h.next ≤ y ∨ TOwn tb sl y) →
   Gx.Wp (iterK bot (d + 1) (lookup_Table_Add_l0b k (DD k) j) (some ⟨tb, 0, none⟩) s (s.len : Int) (i : Int) H) Q := by
 intro d
 induction d with
 | zero =>
  intro i H sl' hd T' c ho
  obtain rfl : i = xs.length := by omega
  rw [List.take_length] at T'
  rw [iterK_s]; simp only [lookup_Table_Add_l0b]
  exact .ifn (by rw [R.len]; simp) (hj H sl' T' c ho)
 | succ d ih =>
  intro i H sl' hd T' c ho
  rw [iterK_s]; simp only [lookup_Table_Add_l0b]
  obtain ⟨x, hx⟩ := isome (l := xs) (i := i) (by omega)
  have RH : RowW 6 itC H s xs := R.chg c hs
  obtain ⟨q, b1, b2, _⟩ := RH.ld itC_len (by decide) hx
  have nH := c.nx
  have hi256 := idx_lt x.1
  refine .ifp (by rw [R.len]; simp; omega) (Gx.Wp.jn fun j18 h18 => .bnd b1 (.bnd b2 (.bnd (decI6 x) (Wp.newE fun H1 e1 k1 n1 g1 => Wp.stL g1 rfl rfl rfl (by decide) fun H2 c2 n2 g2 => ?_))))
  have k2 : Keeps H H2 := k1.keepsS c2 fun y hy => by subst hy; omega
  have gx : H2.get H.next = some (.cells (itC x) 57 true 0) := g2
  have T2 := T'.keeps k2
  have hrx : RisesT (addL F (xs.take i)) := addL_rises hr
  have hmx : MaxT (addL F (xs.take i)) (N + i) := by have := addL_max (xs := xs.take i) hm; rwa [List.length_take, Nat.min_eq_left (by omega)] at this
  have S2 := T2.slot _ hi256
  have hln := hmx _ hi256
  have nx : addL F (xs.take (i + 1)) = addF (addL F (xs.take i)) x := by
   rw [show xs.take (i + 1) = xs.take i ++ [x] by rw [List.take_add_one, hx]; rfl]
   unfold addL; rw [List.foldl_append]; rfl
  have next : ∀ (H' : AHeap) (sl2 : Nat → Slc), Tab base H' tb sl2 (addL F (xs.take (i + 1))) → Chg (TOwn tb sl) h H' → (∀ y, TOwn tb sl2 y → h.next ≤ y ∨ TOwn tb sl y) → Gx.Wp (j18 (some ⟨tb, 0, none⟩) s (s.len : Int) (i : Int) H') Q := fun H' sl2 t1 t2 t3 => by
   rw [h18]
   dsimp only
   rw [Gx.w1 (by omega)]
   exact ih (i + 1) H' sl2 (by omega) t1 t2 t3
  refine .bnd (show ldS ⟨H.next, 0, none⟩ H2 = some x.1 by simp [ldS, AHeap.rd1, gx, itC, decS]) (.bnd (list_spec k _ tb x.1 H2) (.bnd rfl (.bnd (sldL_at T2.blk (tabC_get _ hi256)) (.bnd (sldA_at gx rfl) (.bnd (decI6 x) ?_)))))
  refine .call (search_spec hk (by omega) S2.row (by omega) x (posI_le x _) (fun i2 y hi2 hy => by have := pos_ahead hi2 hy; simpa [lessI] using this) (fun i2 y hi2 hy => by have := pos_behind (hrx _ hi256) hi2 hy; simpa [lessI] using this)) fun r30 ⟨q1, q2, k3⟩ => ?_
  rw [pos_found (hrx _ hi256)] at q2
  have k3' := k2.trans k3
  have T3 := T2.keeps k3
  have gx3 := k3.got (by omega) gx
  by_cases hin : x ∈ addL F (xs.take i) (idx x.1)
  ·have : r30.1.2 = true := q2.2 hin
   refine .ifn (by simp [this]) (next r30.2 sl' ?_ (Chg.beh c k3' fun y _ f => f.elim) ho)
   rw [nx]
   refine T3.ext fun l hl => ?_
   unfold addF upd
   split
   ·rename_i e; rw [e]; unfold putI; rw [if_pos hin]
   ·rfl
  ·have : r30.1.2 = false := by cases e : r30.1.2; rfl; exact absurd (q2.1 e) hin
   refine .ifp (by simp [this]) (.bnd (sldA_at gx3 rfl) (.bnd (decI6 x) (Wp.newE fun H4 e4 k4 n4 g4 => ?_)))
   have T4 := T3.keeps k4
   have gx4 : H4.get r30.2.next = some (.cells (itC x) 57 true 0) := g4
   have l4 := sldL_at (sp := none) T4.blk (tabC_get _ hi256)
   have l3 := sldL_at (sp := none) T3.blk (tabC_get _ hi256)
   have n3 := k3'.nx
   refine .bnd rfl (.bnd l4 (.gp (ssw1 (by rw [l3]; rfl)) ?_))
   have S4 := T4.slot _ hi256
   obtain ⟨s', h5, a1, A5, c5, d5⟩ := ins_spec k (DD k) S4 (by omega) T4.lt x (posI_le x _) (by omega) gx4 (by omega) (fun a ha => by have := ((T3.slot _ hi256).own a ha).2.1; omega)
   rw [q1]
   refine .bnd a1 (.bnd rfl ?_)
   obtain ⟨h6, a6, T6, c6, o6⟩ := T4.slotT hi256 c5 A5 d5
   refine .bnd a6 (next h6 (upd sl' (idx x.1) s') ?_ ?_ ?_)
   ·rw [nx]
    refine T6.ext fun l hl => ?_
    unfold addF upd
    split
    ·unfold putI; rw [if_neg hin, take_pos, drop_pos]
    ·rfl
   ·refine Chg.beh c (Chg.trans (S := TOwn tb sl') ((k3'.trans k4).keeps) c6) fun y hy z => ?_
    rcases ho y z with h1 | h1
    ·omega
    ·exact h1
   ·intro y hy
    rcases o6 y hy with h1 | h1
    ·have := k4.nx; left; omega
    ·exact ho y h1
theorem add_spec (hk : 100 ≤ k) (R : RowW 6 itC h s xs) {N : Nat} (hN : N + xs.length ≤ 1000000000) (hkN : N + xs.length + 10 ≤ k) (hs : ∀ a, s.a = some a → ¬ TOwn tb sl a.block) (hb : base ≤ h.next) (T : Tab base h tb sl F) (hr : RisesT F) (hm : MaxT F N) (hok : ∀ x ∈ xs, okI x) :
  Gx.Wp (lookup_Table_Add k (DD k) (some ⟨tb, 0, none⟩) s h) fun z => z.1 = 0 ∧ ∃ sl', Tab base z.2 tb sl' (addL F xs) ∧ Chg (TOwn tb sl) h z.2 ∧ ∀ y, TOwn tb sl' y → h.next ≤ y ∨ TOwn tb sl y := by
 simp only [lookup_Table_Add]
 refine Gx.Wp.jn fun j4 h4 => ?_
 unfold lookup_Table_Add_l1
 obtain ⟨bot, eb⟩ := iterK_of (fun _ _ _ _ _ _ => none) (lookup_Table_Add_l1b k (DD k) j4) (show xs.length + 1 ≤ k by omega)
 rw [eb]
 have loop : ∀ (d i : Nat) (H : AHeap), i + d = xs.length → Keeps h H → Gx.Wp (iterK bot (d + 1) (lookup_Table_Add_l1b k (DD k) j4) (some ⟨tb, 0, none⟩) s s (s.len : Int) (i : Int) H) fun z => z.1 = 0 ∧ ∃ sl', Tab base z.2 tb sl' (addL F xs) ∧ Chg (TOwn tb sl) h z.2 ∧ ∀ y, TOwn tb sl' y → h.next ≤ y ∨ TOwn tb sl y := fun d => by
  induction d with
  | zero =>
   intro i H hd kp
   obtain rfl : i = xs.length := by omega
   rw [iterK_s]; simp only [lookup_Table_Add_l1b]
   refine .ifn (by rw [R.len]; simp) ?_
   rw [h4]
   refine Gx.Wp.jn fun j6 h6 => ?_
   unfold lookup_Table_Add_l0
   obtain ⟨bot2, eb2⟩ := iterK_of (fun _ _ _ _ _ => none) (lookup_Table_Add_l0b k (DD k) j6) (show xs.length + 1 ≤ k by omega)
   rw [eb2]
   have nH := kp.nx
   exact add_l0 hk bot2 j6 (R.keeps kp) hN hkN hs (by omega) (fun H2 sl' t1 t2 t3 => by rw [h6]; exact .of ⟨rfl, sl', t1, Chg.trans kp.keeps t2, fun y hy => by rcases t3 y hy with q | q; left; omega; exact .inr q⟩) (T.keeps kp) hr hm xs.length 0 H sl (by omega) (T.keeps kp) (.refl _ _) (fun y hy => .inr hy)
  | succ d ih =>
   intro i H hd kp
   rw [iterK_s]; simp only [lookup_Table_Add_l1b]
   obtain ⟨x, hx⟩ := isome (l := xs) (i := i) (by omega)
   obtain ⟨q, b1, b2, _⟩ := (R.keeps kp).ld itC_len (by decide) hx
   refine .ifp (by rw [R.len]; simp; omega) (.bnd b1 (.bnd b2 (.bnd (decI6 x) (Wp.newE fun H1 e1 k1 n1 g1 => Wp.stL g1 rfl rfl rfl (by decide) fun H2 c2 n2 g2 => ?_))))
   have k2 : Keeps h H2 := kp.trans (k1.keepsS c2 fun y hy => by subst hy; omega)
   have gx : H2.get H.next = some (.cells (itC x) 57 true 0) := g2
   refine .bnd (sldA_at gx rfl) (.bnd (decI6 x) (.call (check_spec k _ x H2) fun r ⟨q1, q2⟩ => ?_))
   have h0 : r.1 = 0 := by rw [q1]; unfold chkI; rw [if_pos (hok x (mem_of hx))]
   refine .ifn (by simp [h0]) ?_
   rw [Gx.w1 (by omega)]
   exact ih (i + 1) r.2 (by omega) (k2.trans q2)
 exact loop xs.length 0 h (by omega) (.refl _ _)
end
end Ge
namespace Ge
open Go Gx
section
variable {k base tb : Nat} {h : AHeap} {sl : Nat → Slc} {F : Nat → List It} {s : Slc} {xs : List It}
end
end Ge
namespace Ge
open Go Gx
section
variable {k base tb : Nat} {h : AHeap} {s : Slc} {xs : List It} {pb : Nat} {p : ByteArray}
end
end Ge
namespace Ge
open Go Gx
def cntTo (F : Nat → List It) (n : Nat) : Nat := ((List.range n).map fun i => (F i).length).sum
theorem cntTo_s (F : Nat → List It) (n : Nat) : cntTo F (n + 1) = cntTo F n + (F n).length := by simp [cntTo, List.range_succ]
theorem cntTo_le {F : Nat → List It} {n : Nat} (hm : MaxT F n) : ∀ i, i ≤ 256 → cntTo F i ≤ i * n
 | 0, _ => by simp [cntTo]
 | i + 1, h => by
  have := cntTo_le hm i (by omega)
  have := hm i (by omega)
  rw [cntTo_s, Nat.succ_mul]; omega
section
variable {k base tb : Nat} {h : AHeap} {sl : Nat → Slc} {F : Nat → List It}
end
end Ge
namespace Ge
open Go Gx
def Tru {R : Type} (x : Option (R × AHeap)) (v : R) : Prop := ∃ h', x = some (v, h')
theorem Tru.wp {R : Type} {v : R} {x : Option (R × AHeap)} (h : Gx.Wp x fun q => q.1 = v) : Tru x v := by
 obtain ⟨⟨a, b⟩, e, q⟩ := h
 simp only at q
 subst q
 exact ⟨b, e⟩
section
variable {k : Nat}
end
end Ge
namespace Ge
open Go Gx
variable {H : Type} {enc : TypeId × Value → H}
end Ge
namespace Ge
open Go Gx
def leb (n : Nat) : List UInt8 := if n < 128 then [UInt8.ofNat n] else UInt8.ofNat (n % 128 + 128) :: leb (n / 128)
termination_by n
decreasing_by omega
theorem leb_lt {n : Nat} (h : n < 128) : leb n = [UInt8.ofNat n] := by rw [leb]; rw [if_pos h]
theorem leb_ge {n : Nat} (h : ¬ n < 128) : leb n = UInt8.ofNat (n % 128 + 128) :: leb (n / 128) := by rw [leb]; rw [if_neg h]
theorem leb_pos (n : Nat) : 0 < (leb n).length := by
 by_cases h : n < 128
 ·rw [leb_lt h]; simp
 ·rw [leb_ge h]; simp
theorem leb_len : ∀ (d n : Nat), n < 128 ^ (d + 1) → (leb n).length ≤ d + 1
 | 0, n, h => by rw [leb_lt (by omega)]; simp
 | d + 1, n, h => by
  by_cases c : n < 128
  ·rw [leb_lt c]; simp
  ·rw [leb_ge c, List.length_cons]
   have : n / 128 < 128 ^ (d + 1) := (Nat.div_lt_iff_lt_mul (by decide)).2 (by rw [Nat.pow_succ] at h; exact h)
   have := leb_len d (n / 128) this
   omega
def bA (l : List UInt8) : ByteArray := ⟨⟨l⟩⟩
theorem bA_size (l : List UInt8) : (bA l).size = l.length := rfl
theorem bA_app (l m : List UInt8) : bA l ++ bA m = bA (l ++ m) := by
 apply bl_inj
 simp [bl, bA, ByteArray.data_append]
theorem or128 : ∀ a : Fin 256, Go.bits .or .u8 (a.val : Int) 128 = ((a.val % 128 + 128 : Nat) : Int) := by decide +kernel
section
variable {k : Nat}
theorem encB_of (m : Nat) (h : m < 256) : Value.int .u8 (m : Int) = encB (UInt8.ofNat m) := by
 unfold encB
 congr 1
 have : (UInt8.ofNat m).toNat = m := by simp [UInt8.toNat_ofNat']; omega
 omega
theorem bytes_row {h : AHeap} {s : Slc} {l : List UInt8} (R : Row encB h s l) : bytesOf h s = some (bA l) := by
 have := R.rdS
 unfold Gx.rdS at this
 unfold bytesOf
 cases e : s.a with
 | none =>
  rw [e] at this
  have e2 : l.map encB = [] := by
   cases hl : l.map encB with
   | nil => rfl
   | cons x y => rw [hl] at this; cases this
  have : l = [] := by simpa using e2
  rw [this]; rfl
 | some a =>
  rw [e] at this
  simp only [Nat.mul_one] at this
  show (h.rdL a.block a.off s.len).bind _ = _
  rw [this]
  show (unbytes (l.map encB)).bind _ = _
  rw [unbytes_map]; rfl
theorem short_spec (D : CallF) (hk : 20 ≤ k) (n : Nat) (hn : n < 9223372036854775808) (h : AHeap) : Gx.Wp (num_Short k D (n : Int) h) fun z => z.1 = (bA (leb n), 0) ∧ Keeps h z.2 := by
 simp only [num_Short]
 refine .ifn (by simp) (Gx.Wp.jn fun j4 h4 => ?_)
 unfold num_Short_l0
 obtain ⟨bot, eb⟩ := iterK_of (fun _ _ _ => none) (num_Short_l0b k D j4) (show 9 + 1 ≤ k by omega)
 rw [eb]
 have loop : ∀ (d m : Nat) (l : List UInt8) (o : Slc) (H : AHeap), m < 128 ^ (d + 1) → m < 9223372036854775808 → l.length + d ≤ 20 → l ++ leb m = leb n → Keeps h H → Acc encB 5 h.next H o l → Gx.Wp (iterK bot (d + 1) (num_Short_l0b k D j4) (m : Int) o H) fun z => z.1 = (bA (leb n), 0) ∧ Keeps h z.2 := fun d => by
  induction d with
  | zero =>
   intro m l o H hm hm2 hl hlm kp A
   rw [iterK_s]; simp only [num_Short_l0b]
   have hm' : m < 128 := by simpa using hm
   refine .ifn (by simp; omega) ?_
   rw [h4]
   refine Wp.newE fun H1 e1 k1 n1 g1 => ?_
   rw [Gx.w8 _ (by omega), encB_of m (by omega)] at e1
   obtain ⟨s', h9, a1, a2, A', c9, d9⟩ := Acc.pushK A (fun _ => rfl) (UInt8.ofNat m) (bytes := 1) e1 (by omega) (by decide) kp.nx
   refine .bnd a1 (.bnd a2 (.bnd (bytes_row A'.row) (.of ⟨?_, kp.keepsS c9 fun y ⟨a, ha, e⟩ => by rw [e]; exact (A.lt a ha).2⟩)))
   rw [← hlm, leb_lt hm']
  | succ d ih =>
   intro m l o H hm hm2 hl hlm kp A
   rw [iterK_s]; simp only [num_Short_l0b]
   by_cases c : m < 128
   ·refine .ifn (by simp; omega) ?_
    rw [h4]
    refine Wp.newE fun H1 e1 k1 n1 g1 => ?_
    rw [Gx.w8 _ (by omega), encB_of m (by omega)] at e1
    obtain ⟨s', h9, a1, a2, A', c9, d9⟩ := Acc.pushK A (fun _ => rfl) (UInt8.ofNat m) (bytes := 1) e1 (by omega) (by decide) kp.nx
    refine .bnd a1 (.bnd a2 (.bnd (bytes_row A'.row) (.of ⟨?_, kp.keepsS c9 fun y ⟨a, ha, e⟩ => by rw [e]; exact (A.lt a ha).2⟩)))
    rw [← hlm, leb_lt c]
   ·refine .ifp (by simp; omega) (Wp.newE fun H1 e1 k1 n1 g1 => ?_)
    have ew : IntKind.wrap .u8 (m : Int) = ((m % 256 : Nat) : Int) := by rw [Go.IntKind.wrap_u8]; omega
    have eo : Go.bits .or .u8 (IntKind.wrap .u8 (m : Int)) 128 = ((m % 128 + 128 : Nat) : Int) := by
     rw [ew, or128 ⟨m % 256, by omega⟩]
     congr 2
     show m % 256 % 128 = m % 128
     omega
    rw [eo, encB_of _ (by omega)] at e1
    obtain ⟨s', h9, a1, a2, A', c9, d9⟩ := Acc.pushK A (fun _ => rfl) (UInt8.ofNat (m % 128 + 128)) (bytes := 1) e1 (by omega) (by decide) kp.nx
    refine .bnd a1 (.bnd a2 ?_)
    have ef : Int.fdiv (m : Int) 128 = ((m / 128 : Nat) : Int) := by rw [Int.fdiv_eq_ediv_of_nonneg _ (by decide)]; omega
    rw [ef]
    refine ih (m / 128) (l ++ [UInt8.ofNat (m % 128 + 128)]) s' h9 ((Nat.div_lt_iff_lt_mul (by decide)).2 (by rw [Nat.pow_succ] at hm; exact hm)) (by omega) (by rw [List.length_append, List.length_singleton]; omega) ?_ (kp.keepsS c9 fun y ⟨a, ha, e⟩ => by rw [e]; exact (A.lt a ha).2) A'
    rw [← hlm, leb_ge c]; simp
 exact loop 9 n [] ⟨none, 0, 0⟩ h (Nat.lt_of_lt_of_le hn (by decide)) hn (by simp) (by simp) (.refl _ _) (Acc.nil _ _ _ _)
theorem ishort_spec (D : CallF) (hk : 20 ≤ k) (n : Nat) (hn : n < 9223372036854775808) (h : AHeap) : Gx.Wp (index_short k D (n : Int) h) fun z => z.1 = bA (leb n) ∧ Keeps h z.2 := by
 simp only [index_short]
 exact .call (short_spec D hk n hn h) fun r ⟨q, kk⟩ => .of ⟨by rw [q], kk⟩
end
end Ge
namespace Ge
open Go Gx
structure BuS (base : Nat) (H : AHeap) (bb : Nat) (s : Slc) (l : List UInt8) : Prop where
 blk : ∃ pv, H.get bb = some (.cells [pv, .slice s.a s.len s.cap] 100 true 0) ∧ (pv = .pointer none ∨ pv = .pointer (some ⟨bb, 0, none⟩))
 acc : Acc encB 5 base H s l
 lt : bb < H.next
 ge : base ≤ bb
 ne : ∀ a, s.a = some a → a.block ≠ bb
def BOwn (bb : Nat) (s : Slc) (y : Nat) : Prop := y = bb ∨ ofS s y
section
variable {k base bb : Nat} {h H H' : AHeap} {s : Slc} {l : List UInt8}
theorem BuS.own (B : BuS base H bb s l) {y : Nat} (hy : BOwn bb s y) : base ≤ y ∧ y < H.next := by
 rcases hy with rfl | ⟨a, ha, rfl⟩
 ·exact ⟨B.ge, B.lt⟩
 ·exact ⟨(B.acc.lt a ha).2, (B.acc.lt a ha).1⟩
theorem BuS.chg {S : Nat → Prop} (B : BuS base H bb s l) (c : Chg S H H') (hs : ∀ y, BOwn bb s y → ¬ S y) : BuS base H' bb s l :=
 ⟨by
  obtain ⟨pv, g, e⟩ := B.blk
  exact ⟨pv, (c.oth bb B.lt (hs bb (.inl rfl))).trans g, e⟩, B.acc.chg c fun a ha => hs _ (.inr ⟨a, ha, rfl⟩), Nat.lt_of_lt_of_le B.lt c.nx, B.ge, B.ne⟩
theorem BuS.keeps (B : BuS base H bb s l) (c : Keeps H H') : BuS base H' bb s l := B.chg c fun _ _ f => f
theorem BuS.new (H : AHeap) (g : H'.get H.next = some (.cells [.pointer none, .slice none 0 0] 100 true 0)) (n : H'.next = H.next + 1) : BuS H.next H' H.next ⟨none, 0, 0⟩ [] :=
 ⟨⟨_, g, .inl rfl⟩, Acc.nil _ _ _ _, by omega, Nat.le_refl _, fun a ha => by cases ha⟩
theorem write_spec (D : CallF) (B : BuS base H bb s l) (x : ByteArray) (hx : 2 * (l.length + x.size) ≤ 281474976710656) :
  Gx.Wp (strings_Builder_WriteString k D (some ⟨bb, 0, none⟩) x H) fun z => ∃ s', BuS base z.2 bb s' (l ++ bl x) ∧ Chg (BOwn bb s) H z.2 ∧ ∀ y, BOwn bb s' y → H.next ≤ y ∨ BOwn bb s y := by
 simp only [strings_Builder_WriteString]
 obtain ⟨pv, g, hpv⟩ := B.blk
 have hlt := B.lt
 have hge := B.ge
 obtain ⟨H1, e1, g1, c1⟩ : ∃ H1, ccA ccTab ⟨bb, 0, none⟩ H = some H1 ∧ H1.get bb = some (.cells [.pointer (some ⟨bb, 0, none⟩), .slice s.a s.len s.cap] 100 true 0) ∧ Chg (· = bb) H H1 := by
  have ht : tabIn 100 0 2 ccTab = true := by decide
  rcases hpv with rfl | rfl
  ·refine ⟨_, ?_, sset_get _ _ _, Chg.set (.inr rfl)⟩
   ·unfold ccA
    simp only [g]
    rw [if_pos ⟨by simpa using ht, trivial⟩]
    show st1 ⟨bb, 0, none⟩ _ H = _
    rw [st1_of g (by simp) rfl]; rfl
  ·refine ⟨H, ?_, g, .refl _ _⟩
   ·unfold ccA
    simp only [g]
    rw [if_pos ⟨by simpa using ht, trivial⟩]
    simp
 have nx1 := c1.nx
 have A1 : Acc encB 5 base H1 s l := B.acc.chg c1 fun a ha e => B.ne a ha e
 obtain ⟨s', h5, a5, A5, c5, d5⟩ : ∃ s' h5, appendA 1 1 5 H1 s (bytesL x) x.size = some (s', h5) ∧ Acc encB 5 base h5 s' (l ++ bl x) ∧ Chg (ofS s) H1 h5 ∧ ∀ a, s'.a = some a → H1.next ≤ a.block ∨ ofS s a.block := by
  by_cases c : bl x = []
  ·have hx0 : x = ⟨#[]⟩ := bl_inj (by rw [c]; rfl)
   subst hx0
   refine ⟨s, H1, ?_, by rw [c, List.append_nil]; exact A1, .refl _ _, fun a ha => .inr ⟨a, ha, rfl⟩⟩
   rcases A1.st with ⟨rfl, _⟩ | ⟨b, gg⟩
   ·rfl
   ·rw [gg.s]
    show appendA 1 1 5 H1 _ [] 0 = _
    simp [appendA]
  ·obtain ⟨s', h5, p1, p2, p3, p4⟩ := A1.app (fun _ => rfl) (bl x) (bytes := 1) (by have : (bl x).length = x.size := rfl; omega) (by decide) (by omega)
   exact ⟨s', h5, p1, p2, p3, fun a ha => (p4 a ha).imp id fun q => ⟨a, q, rfl⟩⟩
 have n5 := c5.nx
 have g5 : h5.get bb = some (.cells [.pointer (some ⟨bb, 0, none⟩), .slice s.a s.len s.cap] 100 true 0) := c5.got (by omega) (fun ⟨a, ha, e⟩ => B.ne a ha e.symm) g1
 refine .bnd rfl (.bnd e1 (.bnd rfl (.bnd (sldL_at (o := 0 + 1) g1 rfl) (.bnd a5 (.bnd rfl (.bnd (st1_of g5 (by simp) rfl) (.of ?_)))))))
 have d5' : ∀ a, s'.a = some a → a.block ≠ bb := fun a ha e => by
  rcases d5 a ha with q | ⟨b, hb, q⟩
  ·omega
  ·exact B.ne b hb (q ▸ e)
 refine ⟨s', ⟨⟨_, sset_get _ _ _, .inr rfl⟩, A5.chg (S := (· = bb)) (Chg.set (.inr rfl)) fun a ha e => d5' a ha e, by simp; omega, hge, d5'⟩, ?_, ?_⟩
 ·refine Chg.beh (T := (· = bb)) (Chg.beh (T := ofS s) (c1.wk fun y _ e => .inl e) c5 fun y _ e => .inr e) (Chg.set (.inr rfl)) fun y _ e => .inl e
 ·rintro y (rfl | ⟨a, ha, rfl⟩)
  ·exact .inr (.inl rfl)
  ·rcases d5 a ha with q | q
   ·left; omega
   ·exact .inr (.inr q)
theorem unbytesS_map (l : List UInt8) : unbytesS (l.map encB) = some l := by
 induction l with
 | nil => rfl
 | cons x l ih =>
  have hx := x.toNat_lt
  simp only [List.map_cons, encB, unbytesS]
  rw [if_pos (by omega), ih]
  simp
theorem bstring_spec (D : CallF) (B : BuS base H bb s l) (hl : l.length < 9223372036854775808) : Gx.Wp (strings_Builder_String k D (some ⟨bb, 0, none⟩) H) fun z => z.1 = bA l ∧ Chg (BOwn bb s) H z.2 ∧ ∃ pv, z.2.get bb = some (.cells [pv, .slice s.a s.len s.cap] 100 true 0) := by
 obtain ⟨pv, g, hpv⟩ := B.blk
 simp only [strings_Builder_String]
 have hsl : s.len = l.length := B.acc.row.1
 have gl := sldL_at (sp := none) (o := 0 + 1) g rfl
 rcases B.acc.st with ⟨rfl, rfl⟩ | ⟨b, gg⟩
 ·refine .bnd rfl (.bnd gl (.bnd rfl (.bnd rfl (.bnd gl (.bnd (show unsA 5 none ((0 : Nat) : Int) H = some (⟨#[]⟩, H) from rfl) (.of ⟨rfl, .refl _ _, pv, g⟩))))))
 ·have gb : H.get b = some (.cells (l.map encB) 5 true 0) := gg.blk
  have hp : 0 < l.length := List.length_pos_iff.2 gg.ne
  have hne : b ≠ bb := B.ne ⟨b, 0, some 2⟩ (by rw [gg.s])
  have e1 : sliceP s = some (some ⟨b, 0, none⟩) := by
   rw [gg.s]
   unfold sliceP
   have : Nat.beq l.length 0 = false := by
    cases c : Nat.beq l.length 0 with
    | false => rfl
    | true => have := Nat.eq_of_beq_eq_true c; omega
   simp only [this, cond_false]
  have e2 : unsA 5 (some ⟨b, 0, none⟩) (s.len : Int) H = some (bA l, H.set b (.cells (l.map encB) 5 true (max 0 l.length))) := by
   unfold unsA
   rw [hsl, if_neg (by omega)]
   simp only [gb]
   rw [if_pos ⟨trivial, by omega, by omega, trivial, by simp, by omega⟩, Int.toNat_natCast, List.take_of_length_le (by simp), unbytesS_map]
   rfl
  refine .bnd rfl (.bnd gl (.bnd e1 (.bnd rfl (.bnd gl (.bnd e2 (.of ⟨rfl, Chg.set (.inr (.inr ⟨⟨b, 0, some 2⟩, by rw [gg.s], rfl⟩)), pv, ?_⟩))))))
  simp only [AHeap.get_set]
  rw [if_neg (Ne.symm hne)]; exact g
end
end Ge
namespace Ge
open Go Gx
theorem pw_snoc {α : Type} {R : α → α → Prop} (tr : ∀ a b c, R a b → R b c → R a c) {l : List α} {i : Nat} {x y : α} (h : (l.take (i + 1)).Pairwise R) (hy : l[i]? = some y) (hx : l[i + 1]? = some x) (r : R y x) : (l.take (i + 2)).Pairwise R := by
 have e : l.take (i + 2) = l.take (i + 1) ++ [x] := by rw [List.take_add_one (i := i + 1), hx]; rfl
 rw [e, List.pairwise_append]
 refine ⟨h, List.pairwise_singleton _ _, fun a ha b hb => ?_⟩
 rw [List.mem_singleton] at hb
 subst hb
 have e2 : l.take (i + 1) = l.take i ++ [y] := by rw [List.take_add_one, hy]; rfl
 rw [e2] at h ha
 rcases List.mem_append.1 ha with ha | ha
 ·exact tr _ _ _ ((List.pairwise_append.1 h).2.2 a ha y (List.mem_singleton.2 rfl)) r
 ·rw [List.mem_singleton] at ha; subst ha; exact r
theorem pw_not {α : Type} {R : α → α → Prop} {l : List α} {i : Nat} {x y : α} (hy : l[i]? = some y) (hx : l[i + 1]? = some x) (r : ¬ R y x) : ¬ l.Pairwise R := fun h => by
 obtain ⟨h1, rfl⟩ := getElem_of hy
 obtain ⟨h2, rfl⟩ := getElem_of hx
 exact r (List.pairwise_iff_getElem.1 h i (i + 1) h1 h2 (by omega))
instance (a b : ByteArray) : Decidable (ltB a b) := by unfold ltB; exact inferInstance
def LessI (x y : It) : Prop := lessI x y = true
theorem LessI_trans (a b c : It) (h1 : LessI a b) (h2 : LessI b c) : LessI a c := lessI_trans h1 h2
def sizeOk (sup : List ByteArray) (its : List It) : Prop := (∀ s ∈ sup, s.size = 32) ∧ ∀ x ∈ its, okI x
def upOk (sup : List ByteArray) (its : List It) : Prop := sup.Pairwise ltB ∧ its.Pairwise LessI
open Classical in
noncomputable def chkF (sup : List ByteArray) (its : List It) : Int := if sizeOk sup its then (if upOk sup its then 0 else 4) else 1
section
variable {k : Nat} {h : AHeap} {fs fi : Slc} {sup : List ByteArray} {its : List It}
theorem dd_lessS {R : Type} {Q : R → Prop} {x y : ByteArray} {h : AHeap} {κ : Value → AHeap → Option R} {C : CallF} (hC : C = DD k) (kt : Gx.Wp (κ (.bool (decide (ltB x y))) h) Q) :
  Gx.Wp (callD C (.func (.func 123) ⟨[]⟩ ⟨[]⟩) [.string x, .string y] h κ) Q := by
 subst hC
 show Gx.Wp ((cmp_Less_string k noC x y h).bind fun r => κ (.bool r.1) r.2) Q
 have e : cmp_Less_string k noC x y h = some (decide (ltB x y), h) := by
  simp only [cmp_Less_string, cmp_isNaN_string, Option.bind_some, beq_ba, less_eq]
  simp [ltB]
 exact .bnd e kt
theorem dd_lessI {R : Type} {Q : R → Prop} (hk : 100 ≤ k) {x y : It} {h : AHeap} {κ : Value → AHeap → Option R} {C : CallF} (hC : C = DD k) (kt : ∀ h', Keeps h h' → Gx.Wp (κ (.bool (lessI x y)) h') Q) :
  Gx.Wp (callD C (.func (.func 125) ⟨[]⟩ ⟨[]⟩) [.agg ⟨itC x⟩, .agg ⟨itC y⟩] h κ) Q := by
 subst hC
 show Gx.Wp ((lookup_Less k noC x y h).bind fun r => κ (.bool r.1) r.2) Q
 refine .call (less_spec noC hk x y h) fun r ⟨q1, q2⟩ => ?_
 rw [q1]; exact kt _ q2
theorem risesS_spec (R : Row encS h fs sup) (hl : sup.length + 10 ≤ k) (hb : sup.length < 9000000000000000000) : Gx.Wp (index_rises_string k (DD k) fs (.func (.func 123) ⟨[]⟩ ⟨[]⟩) h) fun z => (z.1 = true ↔ sup.Pairwise ltB) ∧ Keeps h z.2 := by
 simp only [index_rises_string]
 refine Gx.Wp.jn fun j2 h2 => ?_
 unfold index_rises_string_l0
 obtain ⟨bot, eb⟩ := iterK_of (fun _ _ _ _ => none) (index_rises_string_l0b k (DD k) j2) (show (sup.length - 1) + 1 ≤ k by omega)
 rw [eb]
 have loop : ∀ (d i : Nat), (i + 1) + d = max sup.length 1 → (sup.take (i + 1)).Pairwise ltB → Gx.Wp (iterK bot (d + 1) (index_rises_string_l0b k (DD k) j2) fs (.func (.func 123) ⟨[]⟩ ⟨[]⟩) ((i + 1 : Nat) : Int) h) fun z => (z.1 = true ↔ sup.Pairwise ltB) ∧ Keeps h z.2 := fun d => by
  induction d with
  | zero =>
   intro i hd hp
   rw [iterK_s]; simp only [index_rises_string_l0b]
   refine .ifn (by rw [show fs.len = sup.length from R.1]; simp; omega) ?_
   rw [h2]
   rw [List.take_of_length_le (by omega)] at hp
   exact .of ⟨⟨fun _ => hp, fun _ => rfl⟩, .refl _ _⟩
  | succ d ih =>
   intro i hd hp
   rw [iterK_s]; simp only [index_rises_string_l0b]
   obtain ⟨y, hy⟩ := isome (l := sup) (i := i) (by omega)
   obtain ⟨x, hx⟩ := isome (l := sup) (i := i + 1) (by omega)
   obtain ⟨q, b1, b2⟩ := Row.ldS R hy
   obtain ⟨q', c1, c2⟩ := Row.ldS R hx
   have e1 : IntKind.wrap .i64 (((i + 1 : Nat) : Int) - 1) = (i : Int) := by rw [Gx.w64 _ (by omega)]; omega
   rw [e1]
   refine .ifp (by rw [show fs.len = sup.length from R.1]; simp; omega) (.bnd b1 (.bnd b2 (.bnd c1 (.bnd c2 (dd_lessS rfl (.bnd rfl ?_))))))
   by_cases c : ltB y x
   ·refine .ifn (by simp [c]) ?_
    rw [Gx.w1 (by omega)]
    exact ih (i + 1) (by omega) (pw_snoc ltB_trans hp hy hx c)
   ·exact .ifp (by simp [c]) (.of ⟨⟨fun e => (Bool.false_ne_true e).elim, fun e => absurd e (pw_not hy hx c)⟩, .refl _ _⟩)
 by_cases c0 : sup = []
 ·subst c0
  exact loop 0 0 rfl List.Pairwise.nil
 ·have : 0 < sup.length := List.length_pos_iff.2 c0
  obtain ⟨y, hy⟩ := isome (l := sup) (i := 0) this
  exact loop (sup.length - 1) 0 (by omega) (by rw [List.take_add_one, hy]; simp)
theorem risesI_spec (hk : 100 ≤ k) (R : RowW 6 itC h fi its) (hl : its.length + 10 ≤ k) (hb : its.length < 9000000000000000000) : Gx.Wp (index_rises_api_Item k (DD k) fi (.func (.func 125) ⟨[]⟩ ⟨[]⟩) h) fun z => (z.1 = true ↔ its.Pairwise LessI) ∧ Keeps h z.2 := by
 simp only [index_rises_api_Item]
 refine Gx.Wp.jn fun j2 h2 => ?_
 unfold index_rises_api_Item_l0
 obtain ⟨bot, eb⟩ := iterK_of (fun _ _ _ _ => none) (index_rises_api_Item_l0b k (DD k) j2) (show (its.length - 1) + 1 ≤ k by omega)
 rw [eb]
 have loop : ∀ (d i : Nat) (H : AHeap), (i + 1) + d = max its.length 1 → Keeps h H → (its.take (i + 1)).Pairwise LessI → Gx.Wp (iterK bot (d + 1) (index_rises_api_Item_l0b k (DD k) j2) fi (.func (.func 125) ⟨[]⟩ ⟨[]⟩) ((i + 1 : Nat) : Int) H) fun z => (z.1 = true ↔ its.Pairwise LessI) ∧ Keeps h z.2 := fun d => by
  induction d with
  | zero =>
   intro i H hd kp hp
   rw [iterK_s]; simp only [index_rises_api_Item_l0b]
   refine .ifn (by rw [R.len]; simp; omega) ?_
   rw [h2]
   rw [List.take_of_length_le (by omega)] at hp
   exact .of ⟨⟨fun _ => hp, fun _ => rfl⟩, kp⟩
  | succ d ih =>
   intro i H hd kp hp
   rw [iterK_s]; simp only [index_rises_api_Item_l0b]
   obtain ⟨y, hy⟩ := isome (l := its) (i := i) (by omega)
   obtain ⟨x, hx⟩ := isome (l := its) (i := i + 1) (by omega)
   obtain ⟨q, b1, b2, _⟩ := (R.keeps kp).ld itC_len (by decide) hy
   obtain ⟨q', c1, c2, _⟩ := (R.keeps kp).ld itC_len (by decide) hx
   have e1 : IntKind.wrap .i64 (((i + 1 : Nat) : Int) - 1) = (i : Int) := by rw [Gx.w64 _ (by omega)]; omega
   rw [e1]
   refine .ifp (by rw [R.len]; simp; omega) (.bnd b1 (.bnd b2 (.bnd (decI6 y) (.bnd c1 (.bnd c2 (.bnd (decI6 x) (dd_lessI (x := y) (y := x) hk rfl fun h' k' => .bnd rfl ?_)))))))
   by_cases c : lessI y x = true
   ·refine .ifn (by simp [c]) ?_
    rw [Gx.w1 (by omega)]
    exact ih (i + 1) h' (by omega) (kp.trans k') (pw_snoc LessI_trans hp hy hx c)
   ·exact .ifp (by simp [c]) (.of ⟨⟨fun e => (Bool.false_ne_true e).elim, fun e => absurd e (pw_not hy hx c)⟩, kp.trans k'⟩)
 by_cases c0 : its = []
 ·subst c0
  exact loop 0 0 h rfl (.refl _ _) List.Pairwise.nil
 ·have : 0 < its.length := List.length_pos_iff.2 c0
  obtain ⟨y, hy⟩ := isome (l := its) (i := 0) this
  exact loop (its.length - 1) 0 h (by omega) (.refl _ _) (by rw [List.take_add_one, hy]; simp)
theorem isid_spec (D : CallF) (s : ByteArray) (h : AHeap) : sha_IsId k D s h = some (decide (s.size = 32), h) := by
 simp only [sha_IsId]
 by_cases c : s.size = 32
 ·simp [c]
 ·simp [c]; omega
theorem check_file (hk : 100 ≤ k) (R : Row encS h fs sup) (S : RowW 6 itC h fi its) (hl : sup.length + its.length + 20 ≤ k) (hb : sup.length + its.length < 9000000000000000000) :
  Gx.Wp (index_check k (DD k) (fs, fi) h) fun z => z.1 = chkF sup its ∧ Keeps h z.2 := by
 simp only [index_check]
 refine Wp.newE fun H1 e1 k1 n1 g1 => Gx.Wp.jn fun j4 h4 => ?_
 have l0 : ∀ {H : AHeap}, Keeps H1 H → ldL ⟨h.next, 0, none⟩ H = some fs := fun kk => sldL_at (kk.got (by omega) g1) rfl
 have l1 : ∀ {H : AHeap}, Keeps H1 H → ldL ⟨h.next, 1, none⟩ H = some fi := fun kk => sldL_at (kk.got (by omega) g1) rfl
 refine .bnd (l0 (.refl _ _)) ?_
 unfold index_check_l1
 obtain ⟨bot, eb⟩ := iterK_of (fun _ _ _ _ _ => none) (index_check_l1b k (DD k) j4) (show sup.length + 1 ≤ k by omega)
 rw [eb]
 have loop : ∀ (d i : Nat), i + d = sup.length → (∀ s ∈ sup.take i, s.size = 32) → Gx.Wp (iterK bot (d + 1) (index_check_l1b k (DD k) j4) (some ⟨h.next, 0, none⟩) fs (fs.len : Int) (i : Int) H1) fun z => z.1 = chkF sup its ∧ Keeps h z.2 := fun d => by
  induction d with
  | succ d ih =>
   intro i hd hs
   rw [iterK_s]; simp only [index_check_l1b]
   obtain ⟨x, hx⟩ := isome (l := sup) (i := i) (by omega)
   obtain ⟨q, b1, b2⟩ := Row.ldS (R.keeps k1) hx
   refine .ifp (by rw [show fs.len = sup.length from R.1]; simp; omega) (.bnd b1 (.bnd b2 (.bnd (isid_spec _ _ _) ?_)))
   by_cases c : x.size = 32
   ·refine .ifn (by simp [c]) ?_
    rw [Gx.w1 (by omega)]
    refine ih (i + 1) (by omega) fun s hs2 => ?_
    rw [List.take_add_one, hx] at hs2
    rcases List.mem_append.1 hs2 with g | g
    ·exact hs s g
    ·have : s = x := by simpa using g
     rw [this]; exact c
   ·refine .ifp (by simp [c]) (.of ⟨?_, k1⟩)
    unfold chkF
    rw [if_neg (fun q => c (q.1 x (mem_of hx)))]
  | zero =>
   intro i hd hs
   rw [iterK_s]; simp only [index_check_l1b]
   rw [List.take_of_length_le (by omega)] at hs
   refine .ifn (by rw [show fs.len = sup.length from R.1]; simp; omega) ?_
   rw [h4]
   refine Gx.Wp.jn fun j7 h7 => .bnd rfl (.bnd (l1 (.refl _ _)) ?_)
   unfold index_check_l0
   obtain ⟨bot2, eb2⟩ := iterK_of (fun _ _ _ _ _ => none) (index_check_l0b k (DD k) j7) (show its.length + 1 ≤ k by omega)
   rw [eb2]
   have loop2 : ∀ (d i : Nat) (H : AHeap), i + d = its.length → Keeps H1 H → (∀ x ∈ its.take i, okI x) → Gx.Wp (iterK bot2 (d + 1) (index_check_l0b k (DD k) j7) (some ⟨h.next, 0, none⟩) fi (fi.len : Int) (i : Int) H) fun z => z.1 = chkF sup its ∧ Keeps h z.2 := fun d => by
    induction d with
    | succ d ih =>
     intro i H hd kp hi
     rw [iterK_s]; simp only [index_check_l0b]
     obtain ⟨x, hx⟩ := isome (l := its) (i := i) (by omega)
     obtain ⟨q, b1, b2, _⟩ := (S.keeps (k1.trans kp)).ld itC_len (by decide) hx
     refine .ifp (by rw [S.len]; simp; omega) (.bnd b1 (.bnd b2 (.bnd (decI6 x) (Wp.newE fun H3 e3 k3 n3 g3 => Wp.stL g3 rfl rfl rfl (by decide) fun H5 c5 n5 g5 => ?_))))
     have k5 : Keeps H1 H5 := kp.trans (k3.keepsS c5 fun y hy => by subst hy; omega)
     have gx : H5.get H.next = some (.cells (itC x) 57 true 0) := g5
     refine .bnd (sldA_at gx rfl) (.bnd (decI6 x) (.call (check_spec k _ x H5) fun r ⟨q1, q2⟩ => ?_))
     by_cases c : okI x
     ·have h0 : r.1 = 0 := by rw [q1]; unfold chkI; rw [if_pos c]
      refine .ifn (by simp [h0]) ?_
      rw [Gx.w1 (by omega)]
      refine ih (i + 1) r.2 (by omega) (k5.trans q2) fun z hz => ?_
      rw [List.take_add_one, hx] at hz
      rcases List.mem_append.1 hz with g | g
      ·exact hi z g
      ·have : z = x := by simpa using g
       rw [this]; exact c
     ·have h0 : r.1 = 1 := by rw [q1]; unfold chkI; rw [if_neg c]
      refine .ifp (by simp [h0]) (.of ⟨?_, k1.trans (k5.trans q2)⟩)
      rw [h0]; unfold chkF
      rw [if_neg (fun q => c (q.2 x (mem_of hx)))]
    | zero =>
     intro i H hd kp hi
     rw [iterK_s]; simp only [index_check_l0b]
     rw [List.take_of_length_le (by omega)] at hi
     refine .ifn (by rw [S.len]; simp; omega) ?_
     rw [h7]
     have hsz : sizeOk sup its := ⟨hs, hi⟩
     refine Gx.Wp.jn fun j10 h10 => .bnd rfl (.bnd (l0 kp) (.call (risesS_spec (R.keeps (k1.trans kp)) (by omega) (by omega)) fun r1 ⟨q1, e1⟩ => ?_))
     have kr := kp.trans e1
     by_cases c : sup.Pairwise ltB
     ·refine .ifn (by simp [q1.2 c]) (.bnd rfl (.bnd (l1 kr) (.call (risesI_spec hk (S.keeps (k1.trans kr)) (by omega) (by omega)) fun r2 ⟨q2, e2⟩ => ?_)))
      rw [h10]
      by_cases c2 : its.Pairwise LessI
      ·refine .ifn (by simp [q2.2 c2]) (.of ⟨?_, k1.trans (kr.trans e2)⟩)
       unfold chkF
       rw [if_pos hsz, if_pos ⟨c, c2⟩]
      ·have : r2.1 = false := by cases e : r2.1; rfl; exact absurd (q2.1 e) c2
       refine .ifp (by simp [this]) (.of ⟨?_, k1.trans (kr.trans e2)⟩)
       unfold chkF
       rw [if_pos hsz, if_neg (fun q => c2 q.2)]
     ·have : r1.1 = false := by cases e : r1.1; rfl; exact absurd (q1.1 e) c
      rw [h10]
      refine .ifp (by simp [this]) (.ifp rfl (.of ⟨?_, k1.trans kr⟩))
      unfold chkF
      rw [if_pos hsz, if_neg (fun q => c q.1)]
   exact loop2 its.length 0 H1 (by omega) (.refl _ _) (fun x hx => by simp at hx)
 exact loop sup.length 0 (by omega) (fun x hx => by simp at hx)
end
end Ge
namespace Ge
open Go Gx
section
variable {k : Nat} {h : AHeap} {fs fi : Slc} {sup : List ByteArray} {its : List It}
end
end Ge
namespace Ge
open Go Gx
def lineB (x : It) : List UInt8 := bl x.1 ++ bl x.2.1 ++ [UInt8.ofNat x.2.2.1.toNat] ++ leb x.2.2.2.1.toNat ++ leb x.2.2.2.2.1.toNat ++ leb x.2.2.2.2.2.toNat
theorem leb3 {n : Nat} (h : n ≤ 65536) : (leb n).length ≤ 3 := leb_len 2 n (by omega)
theorem lineB_len {x : It} (h : okI x) : (lineB x).length ≤ 74 := by
 obtain ⟨h1, h2, h3, h4, h5, h6⟩ := h
 have a := leb3 (n := x.2.2.2.1.toNat) (by omega)
 have b := leb3 (n := x.2.2.2.2.1.toNat) (by omega)
 have c := leb3 (n := x.2.2.2.2.2.toNat) (by omega)
 have e1 : (bl x.1).length = 32 := h1
 have e2 : (bl x.2.1).length = 32 := h2
 simp only [lineB, List.length_append, List.length_singleton]
 omega
theorem bA_bl (s : ByteArray) : bA (bl s) = s := rfl
theorem oneB {H : AHeap} {b : Nat} {v : Int} {e : TypeId} (hg : H.get b = some (.cells [.int .u8 v] e true 0)) : bytesOf H ⟨some ⟨b, 0, some 0⟩, 1, 1⟩ = some (bA [UInt8.ofNat v.toNat]) := by
 simp only [bytesOf]
 rw [rdL_ok hg (by simp)]
 rfl
section
variable {k : Nat} {h : AHeap}
theorem line_spec (D : CallF) (hk : 20 ≤ k) {x : It} (ok : okI x) (h : AHeap) : Gx.Wp (index_line k D x h) fun z => z.1 = bA (lineB x) ∧ Keeps h z.2 := by
 have hll := lineB_len ok
 obtain ⟨s1, s2, s3, s4, s5, s6⟩ := ok
 simp only [index_line]
 refine Wp.newE fun h1 e1 k1 n1 g1 => ?_
 obtain ⟨h2, e2⟩ : ∃ h2, h2 = AHeap.resv h1 1 := ⟨_, rfl⟩
 rw [← e2]
 have k2 : Keeps h1 h2 := ⟨by rw [e2]; show h1.next ≤ h1.next + 1; omega, fun b hb _ => by rw [e2]; rfl⟩
 have n2 : h2.next = h1.next + 1 := by rw [e2]; rfl
 have gx : h2.get h.next = some (.cells (itC x) 57 true 0) := k2.got (by omega) g1
 have pi : ∀ {H : AHeap}, Keeps h2 H → ∀ (o : Nat) (n : Int), (itC x)[o]? = some (.int .i64 n) → ldI .i64 ⟨h.next, o, none⟩ H = some n := fun kk o n e => sldI_at (kk.got (by omega) gx) e
 have ps : ∀ {H : AHeap}, Keeps h2 H → ∀ (o : Nat) (t : ByteArray), (itC x)[o]? = some (.string t) → ldS ⟨h.next, o, none⟩ H = some t := fun kk o t e => by
  have := kk.got (by omega) gx
  simp [ldS, AHeap.rd1, this, e, decS]
 obtain ⟨a, ea⟩ : ∃ a : Nat, x.2.2.2.1 = (a : Int) := ⟨x.2.2.2.1.toNat, by omega⟩
 obtain ⟨b, eb⟩ : ∃ b : Nat, x.2.2.2.2.1 = (b : Int) := ⟨x.2.2.2.2.1.toNat, by omega⟩
 obtain ⟨c, ec⟩ : ∃ c : Nat, x.2.2.2.2.2 = (c : Int) := ⟨x.2.2.2.2.2.toNat, by omega⟩
 have k0 : Keeps h2 h2 := .refl _ _
 have i3 : (itC x)[3]? = some (.int .i64 (a : Int)) := by rw [← ea]; rfl
 have i4 : (itC x)[4]? = some (.int .i64 (b : Int)) := by rw [← eb]; rfl
 have i5 : (itC x)[5]? = some (.int .i64 (c : Int)) := by rw [← ec]; rfl
 refine .bnd (pi k0 3 _ i3) (.call (ishort_spec D hk a (by omega) h2) fun r4 ⟨q4, k4⟩ => .bnd (pi k4 4 _ i4) (.gp (ssw1 (by rw [pi k0 4 _ i4]; rfl)) (.call (ishort_spec D hk b (by omega) r4.2) fun r8 ⟨q8, k8'⟩ => ?_)))
 have k8 := k4.trans k8'
 refine .bnd (pi k8 5 _ i5) (.gp (fun H hH => ?_) (.call (ishort_spec D hk c (by omega) r8.2) fun r12 ⟨q12, k12'⟩ => ?_))
 ·simp only [List.mem_cons, List.not_mem_nil, or_false] at hH
  dsimp only
  rcases hH with e | e
  ·rw [e, pi k4 5 _ i5]; rfl
  ·rw [e, pi k0 5 _ i5]; rfl
 have k12 := k8.trans k12'
 have hs : ∀ (o : Nat) (t : ByteArray), (itC x)[o]? = some (.string t) → SameW [r8.2, r4.2, h2] (fun H => (ldS ⟨h.next, o, none⟩ H).bind fun y => some (.string y)) (.string t) := fun o t e H hH => by
  simp only [List.mem_cons, List.not_mem_nil, or_false] at hH
  dsimp only
  rcases hH with e2 | e2 | e2
  ·rw [e2, ps k8 o t e]; rfl
  ·rw [e2, ps k4 o t e]; rfl
  ·rw [e2, ps k0 o t e]; rfl
 refine .bnd (ps k12 0 x.1 rfl) (.gp (hs 0 x.1 rfl) (.bnd (ps k12 1 x.2.1 rfl) (.gp (hs 1 x.2.1 rfl) (.ifp (by omega) (.bnd (pi k12 2 x.2.2.1 rfl) (.gp (fun H hH => ?_) ?_))))))
 ·simp only [List.mem_cons, List.not_mem_nil, or_false] at hH
  dsimp only
  rcases hH with e | e | e
  ·rw [e, pi k8 2 _ rfl]; rfl
  ·rw [e, pi k4 2 _ rfl]; rfl
  ·rw [e, pi k0 2 _ rfl]; rfl
 have nk := k12.nx
 obtain ⟨h22, e22⟩ : ∃ h22, h22 = AHeap.set r12.2 (h1.next + 0) (.cells [.int .u8 (IntKind.wrap .u8 x.2.2.1)] 5 true 0) := ⟨_, rfl⟩
 rw [← e22]
 have g22 : h22.get (h1.next + 0) = some (.cells [.int .u8 (IntKind.wrap .u8 x.2.2.1)] 5 true 0) := by rw [e22]; simp
 have ew : IntKind.wrap .u8 x.2.2.1 = x.2.2.1 := Gx.w8 _ (by omega)
 have kz : Keeps h h22 := by rw [e22]; exact Keeps.set (Chg.trans (Chg.trans k1 k2) k12) (by omega)
 refine .bnd (oneB g22) (.gp ⟨_, g22, fun H hH => by dsimp only; rw [oneB hH]; rfl⟩ ?_)
 rw [q4, q8, q12, ew]
 have z1 : (x.1 ++ x.2.1) = bA (bl x.1 ++ bl x.2.1) := by rw [← bA_app, bA_bl, bA_bl]
 rw [z1, bA_app, bA_app, bA_app, bA_app]
 have zl : (lineB x) = ((((bl x.1 ++ bl x.2.1) ++ [UInt8.ofNat x.2.2.1.toNat]) ++ leb a) ++ leb b) ++ leb c := by
  unfold lineB
  rw [ea, eb, ec]; rfl
 rw [zl] at hll
 simp only [bA_size, List.length_append] at hll ⊢
 refine .ifp (by omega) (.ifp (by omega) (.ifp (by omega) (.ifp (by omega) (.of ⟨?_, kz⟩))))
 rw [zl]
end
end Ge
namespace Ge
open Go Gx
def headB : List UInt8 := [71, 82, 84, 73, 1]
def supB (sup : List ByteArray) : List UInt8 := sup.flatMap bl
def itsB (its : List It) : List UInt8 := its.flatMap lineB
def textB (sup : List ByteArray) (its : List It) : List UInt8 := headB ++ leb sup.length ++ supB sup ++ leb its.length ++ itsB its
theorem supB_len {sup : List ByteArray} (h : ∀ s ∈ sup, s.size = 32) : (supB sup).length = 32 * sup.length := by
 induction sup with
 | nil => rfl
 | cons s sup ih =>
  have e : (bl s).length = 32 := h s (List.mem_cons_self ..)
  simp only [supB, List.flatMap_cons, List.length_append, List.length_cons]
  have := ih fun t ht => h t (List.mem_cons_of_mem _ ht)
  unfold supB at this
  omega
theorem itsB_len {its : List It} (h : ∀ x ∈ its, okI x) : (itsB its).length ≤ 74 * its.length := by
 induction its with
 | nil => exact Nat.le_refl _
 | cons x its ih =>
  have e := lineB_len (h x (List.mem_cons_self ..))
  simp only [itsB, List.flatMap_cons, List.length_append, List.length_cons]
  have := ih fun t ht => h t (List.mem_cons_of_mem _ ht)
  unfold itsB at this
  omega
theorem textB_len {sup : List ByteArray} {its : List It} (h : sizeOk sup its) (h1 : sup.length ≤ 4096) (h2 : its.length ≤ 4096) : (textB sup its).length ≤ 500000 := by
 have a := leb_len 1 sup.length (by omega)
 have b := leb_len 1 its.length (by omega)
 have c := supB_len h.1
 have d := itsB_len h.2
 simp only [textB, List.length_append, headB, List.length_cons, List.length_nil]
 omega
theorem dec65 (n : Nat) : decide ((n : Int) ≤ 65536) = decide (n ≤ 65536) := by
 by_cases h : n ≤ 65536
 ·rw [decide_eq_true h, decide_eq_true (by omega)]
 ·rw [decide_eq_false h, decide_eq_false (by omega)]
section
variable {k : Nat} {h : AHeap} {fs fi : Slc} {sup : List ByteArray} {its : List It}
theorem text_spec (D : CallF) (hk : 5000 ≤ k) (R : Row encS h fs sup) (S : RowW 6 itC h fi its) (ok : sizeOk sup its) (hb : sup.length + its.length < 9000000000000000000) :
  Gx.Wp (index_text k D (fs, fi) h) fun z => (if 4096 < sup.length ∨ 4096 < its.length then z.1 = (⟨#[]⟩, false) else z.1 = (bA (textB sup its), decide ((textB sup its).length ≤ 65536))) ∧ Keeps h z.2 := by
 simp only [index_text]
 have fl : (fs.len : Int) = (sup.length : Int) := by rw [show fs.len = sup.length from R.1]
 have il : (fi.len : Int) = (its.length : Int) := by rw [S.len]
 refine Wp.newE fun h1 e1 k1 n1 g1 => ?_
 have l0 : ∀ {H : AHeap}, Keeps h1 H → ldL ⟨h.next, 0, none⟩ H = some fs := fun kk => sldL_at (kk.got (by omega) g1) rfl
 have l1 : ∀ {H : AHeap}, Keeps h1 H → ldL ⟨h.next, 1, none⟩ H = some fi := fun kk => sldL_at (kk.got (by omega) g1) rfl
 refine .bnd (l0 (.refl _ _)) (.bnd (l1 (.refl _ _)) ?_)
 by_cases c : 4096 < sup.length ∨ 4096 < its.length
 ·refine .ifp ?_ (.of ⟨by rw [if_pos c], k1⟩)
  rw [fl, il]
  by_cases c2 : its.length > sup.length
  ·rw [if_pos (by omega)]; simp; omega
  ·rw [if_neg (by omega)]; simp; omega
 refine Gx.Wp.mono (Q := fun z => z.1 = (bA (textB sup its), decide ((textB sup its).length ≤ 65536)) ∧ Keeps h z.2) ?_ fun z hz => by rw [if_neg c]; exact hz
 have c1 : sup.length ≤ 4096 := by omega
 have c2 : its.length ≤ 4096 := by omega
 have htl := textB_len ok c1 c2
 refine .ifn ?_ (Wp.newE fun h5 e5 k5 n5 g5 => ?_)
 ·rw [fl, il]
  by_cases c2 : its.length > sup.length
  ·rw [if_pos (by omega)]; simp; omega
  ·rw [if_neg (by omega)]; simp; omega
 have B5 : BuS h1.next h5 h1.next ⟨none, 0, 0⟩ [] := BuS.new h1 g5 n5
 refine .bnd (l0 k5) ?_
 rw [fl]
 refine .call (ishort_spec D (by omega) sup.length (by omega) h5) fun r7 ⟨q7, k7⟩ => ?_
 rw [q7]
 have a3 := leb_len 1 sup.length (by omega)
 have b3 := leb_len 1 its.length (by omega)
 have sl := supB_len ok.1
 have tl := itsB_len ok.2
 refine .ifp (by rw [bA_size]; show 5 + _ ≤ _; omega) ?_
 have eh : ((⟨#[71, 82, 84, 73, 1]⟩ : ByteArray) ++ bA (leb sup.length)) = bA (headB ++ leb sup.length) := by rw [← bA_app]; rfl
 rw [eh]
 have kh7 : Keeps h1 r7.2 := k5.trans k7
 refine .call (write_spec D (B5.keeps k7) _ (by rw [bA_size, List.length_append]; show 2 * (0 + (5 + _)) ≤ _; omega)) fun r8 ⟨s8, B8, c8, o8⟩ => ?_
 rw [List.nil_append, show bl (bA (headB ++ leb sup.length)) = headB ++ leb sup.length from rfl] at B8
 have kh8 : Keeps h1 r8.2 := kh7.keepsS c8 fun y hy => ((B5.keeps k7).own hy).1
 refine Gx.Wp.jn fun j12 h12 => .bnd (l0 kh8) ?_
 unfold index_text_l1
 obtain ⟨bot, eb⟩ := iterK_of (fun _ _ _ _ _ _ => none) (index_text_l1b k D j12) (show sup.length + 1 ≤ k by omega)
 rw [eb]
 have loop : ∀ (d i : Nat) (s : Slc) (H : AHeap), i + d = sup.length → Keeps h1 H → BuS h1.next H h1.next s (headB ++ leb sup.length ++ supB (sup.take i)) → Gx.Wp (iterK bot (d + 1) (index_text_l1b k D j12) (some ⟨h.next, 0, none⟩) (some ⟨h1.next, 0, none⟩) fs (fs.len : Int) (i : Int) H) fun z => z.1 = (bA (textB sup its), decide ((textB sup its).length ≤ 65536)) ∧ Keeps h z.2 := fun d => by
  induction d with
  | succ d ih =>
   intro i s H hd kp B
   rw [iterK_s]; simp only [index_text_l1b]
   obtain ⟨x, hx⟩ := isome (l := sup) (i := i) (by omega)
   obtain ⟨q, b1, b2⟩ := Row.ldS (R.keeps (k1.trans kp)) hx
   have hx32 := ok.1 x (mem_of hx)
   have tl2 : (supB (sup.take i)).length = 32 * (sup.take i).length := supB_len fun s hs => ok.1 s (List.mem_of_mem_take hs)
   rw [List.length_take] at tl2
   refine .ifp (by rw [fl]; simp; omega) (.bnd b1 (.bnd b2 (.call (write_spec D B x (by rw [List.length_append, List.length_append, tl2, hx32]; show 2 * (5 + _ + _ + _) ≤ _; omega)) fun r ⟨s2, B2, cc, o2⟩ => ?_)))
   rw [Gx.w1 (by omega)]
   refine ih (i + 1) s2 r.2 (by omega) (kp.keepsS cc fun y hy => (B.own hy).1) ?_
   have : supB (sup.take (i + 1)) = supB (sup.take i) ++ bl x := by rw [List.take_add_one, hx]; simp [supB]
   rw [this, ← List.append_assoc]; exact B2
  | zero =>
   intro i s H hd kp B
   rw [iterK_s]; simp only [index_text_l1b]
   rw [List.take_of_length_le (by omega)] at B
   refine .ifn (by rw [fl]; simp; omega) ?_
   rw [h12]
   refine .bnd rfl (.bnd (show ldL ⟨h.next, 0 + 1, none⟩ H = some fi from l1 kp) ?_)
   rw [il]
   refine .call (ishort_spec D (by omega) its.length (by omega) H) fun r15 ⟨q15, k15⟩ => ?_
   rw [q15]
   refine .call (write_spec D (B.keeps k15) _ (by rw [bA_size, List.length_append, List.length_append, sl]; show 2 * (5 + _ + _ + _) ≤ _; omega)) fun r16 ⟨s16, B16, c16, o16⟩ => ?_
   rw [show bl (bA (leb its.length)) = leb its.length from rfl] at B16
   have kp16 : Keeps h1 r16.2 := (kp.trans k15).keepsS c16 fun y hy => ((B.keeps k15).own hy).1
   refine Gx.Wp.jn fun j19 h19 => .bnd rfl (.bnd (show ldL ⟨h.next, 0 + 1, none⟩ r16.2 = some fi from l1 kp16) ?_)
   unfold index_text_l0
   obtain ⟨bot2, eb2⟩ := iterK_of (fun _ _ _ _ _ => none) (index_text_l0b k D j19) (show its.length + 1 ≤ k by omega)
   rw [eb2]
   have loop2 : ∀ (d i : Nat) (s : Slc) (H : AHeap), i + d = its.length → Keeps h1 H → BuS h1.next H h1.next s (headB ++ leb sup.length ++ supB sup ++ leb its.length ++ itsB (its.take i)) → Gx.Wp (iterK bot2 (d + 1) (index_text_l0b k D j19) (some ⟨h1.next, 0, none⟩) fi (fi.len : Int) (i : Int) H) fun z => z.1 = (bA (textB sup its), decide ((textB sup its).length ≤ 65536)) ∧ Keeps h z.2 := fun d => by
    induction d with
    | succ d ih =>
     intro i s H hd kp B
     rw [iterK_s]; simp only [index_text_l0b]
     obtain ⟨x, hx⟩ := isome (l := its) (i := i) (by omega)
     obtain ⟨q, b1, b2, _⟩ := (S.keeps (k1.trans kp)).ld itC_len (by decide) hx
     have okx := ok.2 x (mem_of hx)
     refine .ifp (by rw [il]; simp; omega) (.bnd b1 (.bnd b2 (.bnd (decI6 x) (Wp.newE fun H3 e3 k3 n3 g3 => Wp.stL g3 rfl rfl rfl (by decide) fun H5 c5 n5 g5 => ?_))))
     have k5 : Keeps H H5 := k3.keepsS c5 fun y hy => by subst hy; omega
     have gx : H5.get H.next = some (.cells (itC x) 57 true 0) := g5
     refine .bnd (sldA_at gx rfl) (.bnd (decI6 x) (.call (line_spec D (by omega) okx H5) fun r ⟨q1, q2⟩ => ?_))
     rw [q1]
     have lx := lineB_len okx
     have tl3 : (itsB (its.take i)).length ≤ 74 * (its.take i).length := itsB_len fun s hs => ok.2 s (List.mem_of_mem_take hs)
     rw [List.length_take] at tl3
     have B5 := B.keeps (k5.trans q2)
     refine .call (write_spec D B5 (bA (lineB x)) (by simp only [bA_size, List.length_append, sl, headB, List.length_cons, List.length_nil]; omega)) fun r2 ⟨s2, B2, cc, o2⟩ => ?_
     rw [Gx.w1 (by omega)]
     refine ih (i + 1) s2 r2.2 (by omega) ((kp.trans (k5.trans q2)).keepsS cc fun y hy => (B5.own hy).1) ?_
     have : itsB (its.take (i + 1)) = itsB (its.take i) ++ lineB x := by rw [List.take_add_one, hx]; simp [itsB]
     rw [this, ← List.append_assoc]; exact B2
    | zero =>
     intro i s H hd kp B
     rw [iterK_s]; simp only [index_text_l0b]
     rw [List.take_of_length_le (by omega)] at B
     refine .ifn (by rw [il]; simp; omega) ?_
     rw [h19]
     have eT : headB ++ leb sup.length ++ supB sup ++ leb its.length ++ itsB its = textB sup its := rfl
     rw [eT] at B
     refine .call (bstring_spec D B (by omega)) fun r20 ⟨q20, c20, pv, g20⟩ => ?_
     have hsl : s.len = (textB sup its).length := B.acc.row.1
     have elen : strings_Builder_Len k D (some ⟨h1.next, 0, none⟩) r20.2 = some (((textB sup its).length : Int), r20.2) := by
      simp only [strings_Builder_Len]
      exact bnd rfl (bnd (sldL_at (o := 0 + 1) g20 rfl) (by rw [hsl]))
     refine .bnd elen (.of ⟨?_, k1.trans (kp.keepsS c20 fun y hy => (B.own hy).1)⟩)
     rw [q20]
     dsimp only
     rw [dec65]
   exact loop2 its.length 0 s16 r16.2 (by omega) kp16 (by simpa [itsB] using B16)
 exact loop sup.length 0 s8 r8.2 (by omega) kh8 (by simpa [supB] using B8)
def tooB (sup : List ByteArray) (its : List It) : Prop := 4096 < sup.length ∨ 4096 < its.length ∨ 65536 < (textB sup its).length
open Classical in
noncomputable def encR (sup : List ByteArray) (its : List It) : ByteArray × Int := if chkF sup its = 0 then (if tooB sup its then (⟨#[]⟩, 2) else (bA (textB sup its), 0)) else (⟨#[]⟩, chkF sup its)
theorem chk_zero {sup : List ByteArray} {its : List It} : chkF sup its = 0 ↔ sizeOk sup its ∧ upOk sup its := by
 unfold chkF
 by_cases a : sizeOk sup its
 ·by_cases b : upOk sup its
  ·rw [if_pos a, if_pos b]; simp [a, b]
  ·rw [if_pos a, if_neg b]; simp [b]
 ·rw [if_neg a]; simp [a]
theorem encR_ok {sup : List ByteArray} {its : List It} (c : chkF sup its = 0) (t : ¬ tooB sup its) : encR sup its = (bA (textB sup its), 0) := by unfold encR; rw [if_pos c, if_neg t]
theorem encR_long {sup : List ByteArray} {its : List It} (c : chkF sup its = 0) (t : tooB sup its) : encR sup its = (⟨#[]⟩, 2) := by unfold encR; rw [if_pos c, if_pos t]
theorem encR_bad {sup : List ByteArray} {its : List It} (c : ¬ chkF sup its = 0) : encR sup its = (⟨#[]⟩, chkF sup its) := by unfold encR; rw [if_neg c]
theorem encode_spec (hk : 5000 ≤ k) (R : Row encS h fs sup) (S : RowW 6 itC h fi its) (hl : sup.length + its.length + 20 ≤ k) (hb : sup.length + its.length < 9000000000000000000) :
  Gx.Wp (index_Encode k (DD k) (fs, fi) h) fun z => z.1 = encR sup its ∧ Keeps h z.2 := by
 simp only [index_Encode]
 refine Wp.newE fun h1 e1 k1 n1 g1 => ?_
 have ld : ∀ {H : AHeap}, Keeps h1 H → ldA 2 ⟨h.next, 0, none⟩ H = some [.slice fs.a fs.len fs.cap, .slice fi.a fi.len fi.cap] := fun kk => sldA_at (kk.got (by omega) g1) rfl
 have dc : decC [.l, .l] [.slice fs.a fs.len fs.cap, .slice fi.a fi.len fi.cap] = some (fs, fi) := rfl
 refine .bnd (ld (.refl _ _)) (.bnd dc (.call (check_file (by omega) (R.keeps k1) (S.keeps k1) hl hb) fun r4 ⟨q4, k4⟩ => ?_))
 by_cases c : chkF sup its = 0
 ·have ok := (chk_zero.1 c).1
  refine .ifn (by rw [q4, c]; decide) (.bnd (ld k4) (.bnd dc (.call (text_spec _ hk (R.keeps (k1.trans k4)) (S.keeps (k1.trans k4)) ok hb) fun r7 ⟨q7, k7⟩ => ?_)))
  have kz := (k1.trans k4).trans k7
  by_cases c2 : 4096 < sup.length ∨ 4096 < its.length
  ·rw [if_pos c2] at q7
   exact .ifp (by rw [q7]; rfl) (.of ⟨(encR_long c (Or.elim c2 (fun e => Or.inl e) fun e => Or.inr (Or.inl e))).symm, kz⟩)
  ·rw [if_neg c2] at q7
   by_cases c3 : 65536 < (textB sup its).length
   ·exact .ifp (by rw [q7]; simp; omega) (.of ⟨(encR_long c (Or.inr (Or.inr c3))).symm, kz⟩)
   ·refine .ifn (by rw [q7]; simp; omega) (.of ⟨?_, kz⟩)
    rw [q7]
    refine (encR_ok c fun q => ?_).symm
    rcases q with q | q | q
    ·exact c2 (Or.inl q)
    ·exact c2 (Or.inr q)
    ·exact c3 q
 ·exact .ifp (by rw [q4]; simpa using c) (.of ⟨by rw [q4, encR_bad c], k1.trans k4⟩)
theorem works16 (hk : 5000 ≤ k) (h : AHeap) : Gx.Wp (law16_works k (DD k) h) fun z => z.1 = true ∧ Keeps h z.2 := by
 simp only [law16_works]
 refine .call (encode_spec (sup := []) (its := []) hk (Row.nil _ _ _ _) (RowW.nil _ _ _ _ _) (by simp; omega) (by decide)) fun r ⟨q, kk⟩ => ?_
 have e : encR [] [] = (bA (textB [] []), 0) := by
  unfold encR
  rw [if_pos (chk_zero.2 ⟨⟨fun s hs => (List.not_mem_nil hs).elim, fun s hs => (List.not_mem_nil hs).elim⟩, List.Pairwise.nil, List.Pairwise.nil⟩), if_neg]
  have l0 : leb 0 = [0] := leb_lt (by decide)
  rintro (q | q | q)
  ·simp at q
  ·simp at q
  ·simp [textB, headB, supB, itsB, l0] at q
 have l0 : leb 0 = [0] := leb_lt (by decide)
 rw [q, e]
 refine .ifp rfl (.of ⟨?_, kk⟩)
 show (((bA (textB [] [])).size : Int) == 7) = true
 rw [bA_size]
 simp [textB, headB, supB, itsB, l0]
end
end Ge
namespace Ge
open Go Gx
def lebQ : Nat → Bool → List UInt8 → Option (Nat × List UInt8)
 | 0, _, _ => none
 | _ + 1, _, [] => none
 | d + 1, f, c :: l => if 128 ≤ c.toNat then (lebQ d false l).map fun p => (c.toNat - 128 + 128 * p.1, p.2) else if c.toNat = 0 ∧ f = false then none else some (c.toNat, l)
theorem lebQ_suf : ∀ {d : Nat} {f : Bool} {l : List UInt8} {n : Nat} {r : List UInt8}, lebQ d f l = some (n, r) → ∃ m, m ≤ l.length ∧ r = l.drop m
 | 0, _, _, _, _, h => by simp [lebQ] at h
 | _ + 1, _, [], _, _, h => by simp [lebQ] at h
 | d + 1, f, c :: l, n, r, h => by
  unfold lebQ at h
  split at h
  ·rw [Option.map_eq_some_iff] at h
   obtain ⟨⟨m, r2⟩, h1, h2⟩ := h
   cases h2
   obtain ⟨q, q1, q2⟩ := lebQ_suf h1
   exact ⟨q + 1, by simpa using q1, by simpa using q2⟩
  ·split at h
   ·cases h
   ·cases h; exact ⟨1, by simp, by simp⟩
theorem lebQ_of (d : Nat) : ∀ {n : Nat} {f : Bool} (r : List UInt8), n < 128 ^ (d + 1) → (f = false → 0 < n) → lebQ (d + 1) f (leb n ++ r) = some (n, r) := by
 have one : ∀ (d n : Nat) (f : Bool) (r : List UInt8), n < 128 → (f = false → 0 < n) → lebQ (d + 1) f (leb n ++ r) = some (n, r) := fun d n f r c hf => by
  rw [leb_lt c]
  show (if 128 ≤ (UInt8.ofNat n).toNat then _ else if (UInt8.ofNat n).toNat = 0 ∧ f = false then none else some ((UInt8.ofNat n).toNat, r)) = _
  have e : (UInt8.ofNat n).toNat = n := by simp [UInt8.toNat_ofNat']; omega
  rw [e, if_neg (by omega), if_neg (fun q => by have := hf q.2; omega)]
 induction d with
 | zero => exact fun {n f} r h hf => one 0 n f r (by simpa using h) hf
 | succ d ih =>
  intro n f r h hf
  by_cases c : n < 128
  ·exact one (d + 1) n f r c hf
  ·rw [leb_ge c]
   have hlt : n % 128 + 128 < 256 := by omega
   have e : (UInt8.ofNat (n % 128 + 128)).toNat = n % 128 + 128 := by simp [UInt8.toNat_ofNat']; omega
   show (if 128 ≤ (UInt8.ofNat (n % 128 + 128)).toNat then (lebQ (d + 1) false (leb (n / 128) ++ r)).map (fun p => ((UInt8.ofNat (n % 128 + 128)).toNat - 128 + 128 * p.1, p.2)) else _) = _
   rw [e, if_pos (by omega), ih r ((Nat.div_lt_iff_lt_mul (by decide)).2 (by rw [Nat.pow_succ] at h; exact h)) (fun _ => by omega)]
   simp
   omega
def pS (most : Nat) (l : List UInt8) : Option (Nat × List UInt8) := (lebQ 9 true l).bind fun p => if most < p.1 then none else some p
abbrev Rd := Option (List UInt8)
def opS (most : Nat) (s : Rd) : Nat × Rd := match s.bind (pS most) with
 | some (n, l) => (n, some l)
 | none => (0, none)
def opB (n : Nat) (s : Rd) : ByteArray × Rd := match s with
 | some l => if n ≤ l.length then (bA (l.take n), some (l.drop n)) else (⟨#[]⟩, none)
 | none => (⟨#[]⟩, none)
def opF (s : Rd) : Nat × Rd := match s with
 | some (c :: l) => (c.toNat, some l)
 | _ => (0, none)
theorem opB_some {n : Nat} {l : List UInt8} (h : n ≤ l.length) : opB n (some l) = (bA (l.take n), some (l.drop n)) := by simp [opB, h]
end Ge
namespace Ge
open Go Gx
theorem or_low {n m i : Nat} (hn : n < 2 ^ i) (hb : n + m * 2 ^ i < 9223372036854775808) : Go.bits .or .i64 (n : Int) ((m * 2 ^ i : Nat) : Int) = ((n + m * 2 ^ i : Nat) : Int) := by
 have hw : ∀ z : Int, 0 ≤ z → z < 2 ^ 63 → IntKind.wrap .i64 z = z := fun z h0 h1 => Gx.w64 z (by omega)
 have e := (bits_nat .i64 63 (by decide) hw n (m * 2 ^ i) (by omega) (by omega)).2
 rw [e]
 congr 1
 have := Nat.two_pow_add_eq_or_of_lt hn m
 rw [Nat.or_comm, Nat.mul_comm, ← this]
 omega
theorem andNot128 : ∀ a : Fin 256, Go.bits .andNot .i64 (a.val : Int) 128 = ((a.val % 128 : Nat) : Int) := by decide +kernel
theorem p128 (i : Nat) : 128 ^ i = 2 ^ (7 * i) := by rw [Nat.pow_mul]
def PRd (H : AHeap) (rb : Nat) (st : Rd) : Prop := ∃ (s : ByteArray) (e : Int), H.get rb = some (.cells [.string s, .int .i64 e] 157 true 0) ∧ s.size ≤ 1000000 ∧ (e = 0 ↔ st.isSome = true) ∧ ∀ l, st = some l → s = bA l
section
variable {k rb : Nat} {H H' : AHeap} {st : Rd}
theorem PRd.chg {S : Nat → Prop} (P : PRd H rb st) (hr : rb < H.next) (c : Chg S H H') (hs : ¬ S rb) : PRd H' rb st := by
 obtain ⟨s, e, h1, h2⟩ := P
 exact ⟨s, e, c.got hr hs h1, h2⟩
theorem PRd.keeps (P : PRd H rb st) (hr : rb < H.next) (c : Keeps H H') : PRd H' rb st := P.chg hr c fun f => f
theorem PRd.ok {l : List UInt8} (g : H.get rb = some (.cells [.string (bA l), .int .i64 0] 157 true 0)) (hl : l.length ≤ 1000000) : PRd H rb (some l) := ⟨bA l, 0, g, hl, by simp, fun l' h => by cases h; rfl⟩
theorem PRd.bad {s : ByteArray} {e : Int} (g : H.get rb = some (.cells [.string s, .int .i64 e] 157 true 0)) (hl : s.size ≤ 1000000) (he : e ≠ 0) : PRd H rb none := ⟨s, e, g, hl, by simpa using he, fun l h => by cases h⟩
theorem nshort_spec (D : CallF) (hk : 20 ≤ k) (s : ByteArray) (h : AHeap) : ∃ r, num_short k D s h = some (r, h) ∧ (match lebQ 9 true (bl s) with
  | some (n, m) => ∃ lg : Nat, lg ≤ s.size ∧ r = ((n : Int), (lg : Int), 0) ∧ m = (bl s).drop lg
  | none => r.2.2 ≠ 0) := by
 simp only [num_short]
 obtain ⟨Y, hY⟩ : ∃ Y : Nat, Y = min 9 s.size := ⟨_, rfl⟩
 have eY : (if 9 < (s.size : Int) then 9 else (s.size : Int)) = (Y : Int) := by
  by_cases c : 9 < s.size
  ·rw [if_pos (by omega)]; omega
  ·rw [if_neg (by omega)]; omega
 rw [eY]
 have hl : (bl s).length = s.size := rfl
 suffices hh : ∀ j3, j3 = (fun (s1 : ByteArray) (h2 : AHeap) => (if (decide ((s1.size : Int) < 9)) = true then some (((0 : Int), (0 : Int), (10 : Int)), h2) else some ((0, 0, 3), h2))) → ∃ r, num_short_l0 k D j3 s 0 (Y : Int) 0 h = some (r, h) ∧ (match lebQ 9 true (bl s) with
  | some (n, m) => ∃ lg : Nat, lg ≤ s.size ∧ r = ((n : Int), (lg : Int), 0) ∧ m = (bl s).drop lg
  | none => r.2.2 ≠ 0) from hh _ rfl
 intro j3 h3
 unfold num_short_l0
 obtain ⟨bot, eb⟩ := iterK_of (fun _ _ _ _ _ => none) (num_short_l0b k D j3) (show Y + 1 ≤ k by omega)
 rw [eb]
 have loop : ∀ (d i n : Nat), i + d = Y → n < 128 ^ i → ∃ r, iterK bot (d + 1) (num_short_l0b k D j3) s (n : Int) (Y : Int) (i : Int) h = some (r, h) ∧ (match lebQ (9 - i) (decide (i = 0)) ((bl s).drop i) with
   | some (v, m) => ∃ lg : Nat, lg ≤ s.size ∧ r = (((n + v * 128 ^ i : Nat) : Int), (lg : Int), 0) ∧ m = (bl s).drop lg
   | none => r.2.2 ≠ 0) := fun d => by
  induction d with
  | zero =>
   intro i n hd hn
   obtain rfl : i = Y := by omega
   rw [iterK_s]; simp only [num_short_l0b]
   rw [if_neg (by simp), h3]
   by_cases c : s.size < 9
   ·refine ⟨(0, 0, 10), by dsimp only; rw [if_pos (by simp; omega)], ?_⟩
    obtain ⟨e, he⟩ : ∃ e, 9 - i = e + 1 := ⟨9 - i - 1, by omega⟩
    rw [List.drop_of_length_le (by omega), he]
    simp [lebQ]
   ·refine ⟨(0, 0, 3), by dsimp only; rw [if_neg (by simp; omega)], ?_⟩
    rw [show 9 - i = 0 by omega]
    simp [lebQ]
  | succ d ih =>
   intro i n hd hn
   rw [iterK_s]; simp only [num_short_l0b]
   obtain ⟨c, hc⟩ := isome (l := bl s) (i := i) (by omega)
   have hcl := c.toNat_lt
   obtain ⟨e, he⟩ : ∃ e, 9 - i = e + 1 := ⟨8 - i, by omega⟩
   have he2 : 9 - (i + 1) = e := by omega
   have e7 : IntKind.wrap .i64 (7 * (i : Int)) = ((7 * i : Nat) : Int) := by rw [Gx.w64 _ (by omega)]; omega
   have ewc : IntKind.wrap .i64 (c.toNat : Int) = (c.toNat : Int) := Gx.w64 _ (by omega)
   have hpi : 2 ^ (7 * i) ≤ 2 ^ 56 := Nat.pow_le_pow_right (by decide) (by omega)
   rw [p128] at hn
   have hm : (c.toNat % 128) * 2 ^ (7 * i) ≤ 127 * 2 ^ 56 := Nat.mul_le_mul (by omega) hpi
   have h56 : (2 : Nat) ^ 56 = 72057594037927936 := by decide
   have hsum : n + c.toNat % 128 * 2 ^ (7 * i) < 128 ^ (i + 1) := by
    rw [p128, show 7 * (i + 1) = 7 + 7 * i by omega, Nat.pow_add]
    have : c.toNat % 128 + 1 ≤ 2 ^ 7 := by omega
    have := Nat.mul_le_mul_right (2 ^ (7 * i)) this
    rw [Nat.add_mul] at this
    omega
   have et : Go.bits .or .i64 (n : Int) (IntKind.wrap .i64 ((Go.bits .andNot .i64 (IntKind.wrap .i64 (c.toNat : Int)) 128) * 2 ^ (min (IntKind.wrap .i64 (7 * (i : Int))).toNat (IntKind.bits .i64)))) = ((n + c.toNat % 128 * 2 ^ (7 * i) : Nat) : Int) := by
    rw [ewc, andNot128 ⟨c.toNat, hcl⟩, e7, Int.toNat_natCast, show min (7 * i) (IntKind.bits .i64) = 7 * i from Nat.min_eq_left (by show 7 * i ≤ 64; omega)]
    have e2 : (((c.toNat % 128 : Nat) : Int) * 2 ^ (7 * i)) = ((c.toNat % 128 * 2 ^ (7 * i) : Nat) : Int) := by rw [Int.natCast_mul, Int.natCast_pow]; rfl
    show Go.bits .or .i64 (n : Int) (IntKind.wrap .i64 (((c.toNat % 128 : Nat) : Int) * 2 ^ (7 * i))) = _
    rw [e2, Gx.w64 _ (by omega), or_low hn (by omega)]
   rw [if_pos (by simp; omega)]
   rw [show Gx.idxS s (i : Int) = some (c.toNat : Int) from idxS_of hc]
   simp only [Option.bind_some]
   rw [if_pos (by rw [e7]; omega), et, ewc, he, dropc hc]
   by_cases c1 : 128 ≤ c.toNat
   ·rw [if_pos (by simp; omega), Gx.w1 (by omega)]
    obtain ⟨r, g1, g2⟩ := ih (i + 1) (n + c.toNat % 128 * 2 ^ (7 * i)) (by omega) hsum
    refine ⟨r, g1, ?_⟩
    rw [he2] at g2
    have eq : lebQ (e + 1) (decide (i = 0)) (c :: (bl s).drop (i + 1)) = (lebQ e false ((bl s).drop (i + 1))).map fun p => (c.toNat - 128 + 128 * p.1, p.2) := by
     conv => lhs; unfold lebQ
     rw [if_pos c1]
    rw [show decide (i + 1 = 0) = false by simp] at g2
    rw [eq]
    cases hq : lebQ e false ((bl s).drop (i + 1)) with
    | none => rw [hq] at g2; exact g2
    | some p =>
     obtain ⟨v, m⟩ := p
     rw [hq] at g2
     obtain ⟨lg, k1, k2, k3⟩ := g2
     refine ⟨lg, k1, ?_, k3⟩
     rw [k2]
     have : n + c.toNat % 128 * 2 ^ (7 * i) + v * 128 ^ (i + 1) = n + (c.toNat - 128 + 128 * v) * 128 ^ i := by
      rw [← p128, show c.toNat % 128 = c.toNat - 128 by omega, Nat.pow_succ, Nat.add_mul]
      have : v * (128 ^ i * 128) = 128 * v * 128 ^ i := by rw [← Nat.mul_assoc, Nat.mul_comm _ 128, ← Nat.mul_assoc]
      omega
     rw [this]
   ·rw [if_neg (by simp; omega)]
    have e8 : c.toNat % 128 = c.toNat := Nat.mod_eq_of_lt (by omega)
    have eq : lebQ (e + 1) (decide (i = 0)) (c :: (bl s).drop (i + 1)) = if c.toNat = 0 ∧ decide (i = 0) = false then none else some (c.toNat, (bl s).drop (i + 1)) := by
     conv => lhs; unfold lebQ
     rw [if_neg c1]
    rw [eq, e8]
    by_cases c2 : c.toNat = 0
    ·by_cases c3 : i = 0
     ·rw [if_neg (fun q => by simp [c3] at q)]
      refine ⟨(((n + c.toNat * 2 ^ (7 * i) : Nat) : Int), ((i + 1 : Nat) : Int), 0), ?_, i + 1, by omega, by rw [p128], rfl⟩
      show (if ((c.toNat : Int) == 0) = true then _ else _) = _
      rw [if_pos (by simp [c2])]
      show (if decide ((i : Int) > 0) = true then _ else _) = _
      rw [if_neg (by simp [c3]), Gx.w1 (by omega)]
     ·rw [if_pos ⟨c2, by simp [c3]⟩]
      refine ⟨(0, 0, 3), ?_, by simp⟩
      show (if ((c.toNat : Int) == 0) = true then _ else _) = _
      rw [if_pos (by simp [c2])]
      show (if decide ((i : Int) > 0) = true then _ else _) = _
      rw [if_pos (by simp; omega)]
    ·rw [if_neg (fun q => c2 q.1)]
     refine ⟨(((n + c.toNat * 2 ^ (7 * i) : Nat) : Int), ((i + 1 : Nat) : Int), 0), ?_, i + 1, by omega, by rw [p128], rfl⟩
     show (if ((c.toNat : Int) == 0) = true then _ else _) = _
     rw [if_neg (by simp; omega)]
     show (if false = true then _ else _) = _
     rw [if_neg (by decide), Gx.w1 (by omega)]
 obtain ⟨r, g1, g2⟩ := loop Y 0 0 (by omega) (by decide)
 refine ⟨r, g1, ?_⟩
 rw [List.drop_zero] at g2
 simpa using g2
theorem fail_spec (D : CallF) (e : Int) {s : ByteArray} {e0 : Int} (g : H.get rb = some (.cells [.string s, .int .i64 e0] 157 true 0)) :
  Gx.Wp (num_Reader_Fail k D (some ⟨rb, 0, none⟩) e H) fun z => z.2.get rb = some (.cells [.string s, .int .i64 (if e0 = 0 then e else e0)] 157 true 0) ∧ Chg (· = rb) H z.2 := by
 simp only [num_Reader_Fail]
 refine .bnd rfl (.bnd (sldI_at (o := 0 + 1) g rfl) ?_)
 by_cases c : e0 = 0
 ·refine .ifp (by simp [c]) (.bnd rfl (.bnd (st1_of (o := 0 + 1) g (by simp) rfl) (.of ⟨?_, Chg.set (.inr rfl)⟩)))
  rw [sset_get, if_pos c]; rfl
 ·refine .ifn (by simp [c]) (.of ⟨by rw [if_neg c]; exact g, .refl _ _⟩)
theorem rshort_spec (D : CallF) (hk : 20 ≤ k) (P : PRd H rb st) (most : Nat) :
  Gx.Wp (num_Reader_Short k D (some ⟨rb, 0, none⟩) (most : Int) H) fun z => z.1 = ((opS most st).1 : Int) ∧ PRd z.2 rb (opS most st).2 ∧ Chg (· = rb) H z.2 := by
 simp only [num_Reader_Short]
 obtain ⟨s, e, g, hsz, he, hl⟩ := P
 obtain ⟨r, r1, r2⟩ := nshort_spec D hk s H
 refine .bnd rfl (.bnd (show ldS ⟨rb, 0 + 0, none⟩ H = some s by simp [ldS, AHeap.rd1, g, decS]) (.bnd r1 (Gx.Wp.jn fun j9 h9 => Gx.Wp.jn fun j24 h24 => ?_)))
 have bad : ∀ (n lg e2 : Int), (e2 ≠ 0 ∨ e ≠ 0) → (opS most st) = (0, none) → Gx.Wp (j9 (some ⟨rb, 0, none⟩) n lg e2 H) fun z => z.1 = ((opS most st).1 : Int) ∧ PRd z.2 rb (opS most st).2 ∧ Chg (· = rb) H z.2 := fun n lg e2 hne ho => by
  rw [h9, ho]
  refine .call (fail_spec D e2 g) fun z ⟨z1, z2⟩ => .bnd rfl (.bnd (sldI_at (o := 0 + 1) z1 rfl) ?_)
  have hne2 : (if e = 0 then e2 else e) ≠ 0 := by
   by_cases c : e = 0
   ·rw [if_pos c]; exact hne.resolve_right (fun q => q c)
   ·rw [if_neg c]; exact c
  exact .ifp (by simpa using hne2) (.of ⟨rfl, PRd.bad z1 hsz hne2, z2⟩)
 cases st with
 | none =>
  have hne : e ≠ 0 := fun q => by simpa using he.1 q
  have ho : opS most none = (0, none) := rfl
  by_cases c : r.2.2 = 0
  ·refine .ifp (by simpa using c) ?_
   rw [h24]
   by_cases c2 : r.1 > (most : Int)
   ·exact .ifp (by simpa using c2) (bad _ _ _ (.inr hne) ho)
   ·exact .ifn (by simpa using c2) (bad _ _ _ (.inr hne) ho)
  ·refine .ifn (by simpa using c) ?_
   rw [h24]
   exact .ifn (by decide) (bad _ _ _ (.inr hne) ho)
 | some l =>
  have e0 : e = 0 := he.2 rfl
  have es : s = bA l := hl l rfl
  have ebl : bl s = l := by rw [es]; rfl
  rw [ebl] at r2
  cases hq : lebQ 9 true l with
  | none =>
   rw [hq] at r2
   have ho : opS most (some l) = (0, none) := by simp [opS, pS, hq]
   refine .ifn (by simpa using r2) ?_
   rw [h24]
   exact .ifn (by decide) (bad _ _ _ (.inl r2) ho)
  | some p =>
   obtain ⟨n, m⟩ := p
   rw [hq] at r2
   obtain ⟨lg, q1, q2, q3⟩ := r2
   rw [q2]
   refine .ifp rfl ?_
   rw [h24]
   by_cases c2 : most < n
   ·have ho : opS most (some l) = (0, none) := by simp [opS, pS, hq, c2]
    exact .ifp (by simp; omega) (bad _ _ _ (.inl (by decide)) ho)
   ·have ho : opS most (some l) = (n, some m) := by simp [opS, pS, hq, c2]
    refine .ifn (by simp; omega) ?_
    rw [h9, ho]
    refine .call (fail_spec D 0 g) fun z ⟨z1, z2⟩ => .bnd rfl (.bnd (sldI_at (o := 0 + 1) z1 rfl) (.ifn (by simp [e0]) (.bnd rfl (.bnd (show ldS ⟨rb, 0 + 0, none⟩ z.2 = some s by simp [ldS, AHeap.rd1, z1, decS]) ?_))))
    have esub : Gx.subS s (some (lg : Int)) none = some (bA m) := by
     have := subS_of (s := s) (lo := some (lg : Int)) (hi := none) (i := lg) (j := s.size) rfl rfl q1 (Nat.le_refl _)
     rw [this, ebl, q3, List.take_of_length_le (by rw [← ebl]; exact Nat.le_refl _)]
     rfl
    refine .bnd esub (.bnd rfl (.bnd (st1_of (o := 0 + 0) z1 (by simp) rfl) (.of ⟨rfl, PRd.ok ?_ ?_, Chg.trans z2 (Chg.set (.inr rfl))⟩)))
    ·rw [sset_get, e0]; rfl
    ·have : m.length ≤ s.size := by rw [q3, List.length_drop, ← ebl]; exact Nat.sub_le _ _
     omega
theorem left_spec (D : CallF) {s : ByteArray} {e : Int} (g : H.get rb = some (.cells [.string s, .int .i64 e] 157 true 0)) : num_Reader_Left k D (some ⟨rb, 0, none⟩) H = some ((s.size : Int), H) := by
 simp only [num_Reader_Left]
 exact bnd rfl (bnd (show ldS ⟨rb, 0 + 0, none⟩ H = some s by simp [ldS, AHeap.rd1, g, decS]) rfl)
theorem err_spec (D : CallF) {s : ByteArray} {e : Int} (g : H.get rb = some (.cells [.string s, .int .i64 e] 157 true 0)) : num_Reader_Err k D (some ⟨rb, 0, none⟩) H = some (e, H) := by
 simp only [num_Reader_Err]
 exact bnd rfl (bnd (sldI_at (o := 0 + 1) g rfl) rfl)
theorem rbytes_spec (D : CallF) (P : PRd H rb st) (n : Nat) :
  Gx.Wp (num_Reader_Bytes k D (some ⟨rb, 0, none⟩) (n : Int) H) fun z => z.1 = (opB n st).1 ∧ PRd z.2 rb (opB n st).2 ∧ Chg (· = rb) H z.2 := by
 obtain ⟨s, e, g, hsz, he, hl⟩ := P
 simp only [num_Reader_Bytes]
 refine Gx.Wp.jn fun j4 h4 => .ifn (by simp) (.bnd (left_spec D g) ?_)
 have lds : ∀ {H : AHeap} {s : ByteArray} {e : Int}, H.get rb = some (.cells [.string s, .int .i64 e] 157 true 0) → ldS ⟨rb, 0 + 0, none⟩ H = some s := fun g => by simp [ldS, AHeap.rd1, g, decS]
 by_cases c : s.size < n
 ·have ho : opB n st = (⟨#[]⟩, none) := by
   cases st with
   | none => rfl
   | some l =>
    have es : s = bA l := hl l rfl
    have : ¬ n ≤ l.length := by rw [es, bA_size] at c; omega
    simp [opB, this]
  rw [ho]
  refine .ifp (by simp; omega) (.call (fail_spec D 10 g) fun z ⟨z1, z2⟩ => ?_)
  rw [h4]
  have hne2 : (if e = 0 then (10 : Int) else e) ≠ 0 := by
   by_cases c : e = 0
   ·rw [if_pos c]; decide
   ·rw [if_neg c]; exact c
  exact .bnd rfl (.bnd (sldI_at (o := 0 + 1) z1 rfl) (.ifp (by simpa using hne2) (.of ⟨rfl, PRd.bad z1 hsz hne2, z2⟩)))
 ·refine .ifn (by simp; omega) ?_
  rw [h4]
  refine .bnd rfl (.bnd (sldI_at (o := 0 + 1) g rfl) ?_)
  cases st with
  | none =>
   have hne : e ≠ 0 := fun q => by simpa using he.1 q
   exact .ifp (by simpa using hne) (.of ⟨rfl, PRd.bad g hsz hne, .refl _ _⟩)
  | some l =>
   have e0 : e = 0 := he.2 rfl
   have es : s = bA l := hl l rfl
   have ebl : bl s = l := by rw [es]; rfl
   have hle : n ≤ l.length := by rw [es, bA_size] at c; omega
   have hll : l.length = s.size := by rw [es, bA_size]
   rw [opB_some hle]
   have s1 := subS_of (s := s) (lo := none) (hi := some (n : Int)) (i := 0) (j := n) rfl rfl (Nat.zero_le _) (by omega)
   have s2 := subS_of (s := s) (lo := some (n : Int)) (hi := none) (i := n) (j := s.size) rfl rfl (by omega) (Nat.le_refl _)
   rw [ebl, List.drop_zero] at s1
   rw [ebl, List.take_of_length_le (by omega)] at s2
   refine .ifn (by simp [e0]) (.bnd rfl (.bnd (lds g) (.bnd s1 (.bnd rfl (.bnd (lds g) (.bnd s2 (.bnd rfl (.bnd (st1_of (o := 0 + 0) g (by simp) rfl) (.of ⟨rfl, PRd.ok ?_ ?_, Chg.set (.inr rfl)⟩)))))))))
   ·rw [sset_get, e0]; rfl
   ·rw [List.length_drop]; omega
theorem rfixed_spec (D : CallF) (hk : 20 ≤ k) (hr : rb < H.next) (P : PRd H rb st) :
  Gx.Wp (num_Reader_Fixed k D (some ⟨rb, 0, none⟩) 1 H) fun z => z.1 = ((opF st).1 : Int) ∧ PRd z.2 rb (opF st).2 ∧ Chg (· = rb) H z.2 := by
 simp only [num_Reader_Fixed]
 refine Gx.Wp.jn fun j4 h4 => Gx.Wp.jn fun j23 h23 => .ifn (by decide) ?_
 rw [h23]
 refine .ifn (by decide) ?_
 rw [h4]
 refine Gx.Wp.jn fun j7 h7 => .call (rbytes_spec D P 1) fun r ⟨q1, q2, q3⟩ => ?_
 have nx := q3.nx
 rw [q1]
 obtain ⟨x, hx⟩ : ∃ x, x = (opB 1 st).1 := ⟨_, rfl⟩
 rw [← hx]
 obtain ⟨h9, e9⟩ : ∃ h9, h9 = AHeap.new r.2 (.cells (bytesL x) 5 true 18446744073709551616) := ⟨_, rfl⟩
 rw [← e9]
 have k9 : Keeps r.2 h9 := by rw [e9]; exact Keeps.new _ _
 have g9 : h9.get r.2.next = some (.cells (bytesL x) 5 true 18446744073709551616) := by rw [e9]; simp
 have P9 := q2.keeps (by omega) k9
 have c9 : Chg (· = rb) H h9 := Chg.trans q3 (Chg.keeps k9)
 unfold num_Reader_Fixed_l0
 have ho : (x = ⟨#[]⟩ ∧ opF st = (0, none) ∧ (opB 1 st).2 = none) ∨ ∃ c l, x = bA [c] ∧ opF st = (c.toNat, some l) ∧ (opB 1 st).2 = some l := by
  cases st with
  | none => exact .inl ⟨by rw [hx]; rfl, rfl, rfl⟩
  | some l =>
   cases l with
   | nil => exact .inl ⟨by rw [hx]; simp [opB], rfl, by simp [opB]⟩
   | cons c l => exact .inr ⟨c, l, by rw [hx, opB_some (by simp)]; rfl, rfl, by rw [opB_some (by simp)]; rfl⟩
 rcases ho with ⟨e1, e2, e3⟩ | ⟨c, l, e1, e2, e3⟩
 ·rw [e2, ← e3]
  obtain ⟨bot, eb⟩ := iterK_of (fun _ _ _ _ _ => none) (num_Reader_Fixed_l0b k D j7) (show 0 + 1 ≤ k by omega)
  rw [eb, iterK_s]; simp only [num_Reader_Fixed_l0b]
  refine .ifn (by rw [e1]; decide) ?_
  rw [h7]
  exact .of ⟨rfl, P9, c9⟩
 ·rw [e2, ← e3]
  obtain ⟨bot, eb⟩ := iterK_of (fun _ _ _ _ _ => none) (num_Reader_Fixed_l0b k D j7) (show 1 + 1 ≤ k by omega)
  have esz : x.size = 1 := by rw [e1]; rfl
  have hc := c.toNat_lt
  rw [eb, iterK_s]; simp only [num_Reader_Fixed_l0b]
  rw [esz]
  have ei : Gx.idxL 1 ⟨some ⟨r.2.next, 0, some 2⟩, 1, 1⟩ 0 = some ⟨r.2.next, 0, none⟩ := rfl
  have g9' : h9.get r.2.next = some (.cells [.int .u8 (c.toNat : Int)] 5 true 18446744073709551616) := by rw [g9, e1]; rfl
  refine .ifp (by decide) (.bnd ei (.bnd (sldI_at g9' rfl) ?_))
  have eo : Go.bits .or .i64 (IntKind.wrap .i64 (0 * 256)) (IntKind.wrap .i64 (c.toNat : Int)) = (c.toNat : Int) := by
   rw [Gx.w64 (0 * 256) (by decide), Gx.w64 _ (by omega)]
   have hw : ∀ z : Int, 0 ≤ z → z < 2 ^ 63 → IntKind.wrap .i64 z = z := fun z h0 h1 => Gx.w64 z (by omega)
   have := (bits_nat .i64 63 (by decide) hw 0 c.toNat (by decide) (by omega)).2
   simpa using this
  rw [eo, show IntKind.wrap .i64 (0 + 1) = 1 from rfl, iterK_s]
  simp only [num_Reader_Fixed_l0b]
  refine .ifn (by decide) ?_
  rw [h7]
  exact .of ⟨rfl, P9, c9⟩
theorem rend_spec (D : CallF) (P : PRd H rb st) : Gx.Wp (num_Reader_End k D (some ⟨rb, 0, none⟩) H) fun z => (z.1 = 0 ↔ st = some []) ∧ Chg (· = rb) H z.2 := by
 obtain ⟨s, e, g, hsz, he, hl⟩ := P
 simp only [num_Reader_End]
 refine Gx.Wp.jn fun j3 h3 => .bnd (left_spec D g) ?_
 by_cases c : 0 < s.size
 ·refine .ifp (by simpa using c) (.call (fail_spec D 3 g) fun z ⟨z1, z2⟩ => ?_)
  rw [h3]
  refine .bnd rfl (.bnd (sldI_at (o := 0 + 1) z1 rfl) (.of ⟨⟨fun q => ?_, fun q => ?_⟩, z2⟩))
  ·dsimp only at q
   by_cases c : e = 0
   ·rw [if_pos c] at q; cases q
   ·rw [if_neg c] at q; exact absurd q c
  ·have := hl [] q
   rw [this] at c; exact absurd c (by decide)
 ·refine .ifn (by simpa using c) ?_
  rw [h3]
  refine .bnd rfl (.bnd (sldI_at (o := 0 + 1) g rfl) (.of ⟨⟨fun q => ?_, fun q => ?_⟩, .refl _ _⟩))
  ·cases st with
   | none => simpa using he.1 q
   | some l =>
    have es := hl l rfl
    rw [es, bA_size] at c
    have : l = [] := List.length_eq_zero_iff.1 (by omega)
    rw [this]
  ·exact he.2 (by rw [q]; rfl)
end
end Ge
namespace Ge
open Go Gx
section
variable {k rb : Nat} {h H H' : AHeap} {st : Rd}
theorem chgB {rb b : Nat} {h H H' : AHeap} (a : Chg (· = rb) h H) (c : Chg (· = b) H H') (hb : h.next ≤ b) : Chg (· = rb) h H' := Chg.beh a c fun y hy e => by omega
end
end Ge
namespace Ge
open Go Gx
section
variable {k rb : Nat} {h H H' : AHeap} {st : Rd}
end
end Ge
namespace Ge
open Go Gx
section
variable {k base bb : Nat} {H : AHeap} {s : Slc} {l : List UInt8}
end
end Ge
namespace Ge
open Go Gx
section
variable {k base bb : Nat} {H : AHeap} {s : Slc} {l : List UInt8}
end
end Ge
namespace Ge
open Go Gx
section
variable {k : Nat}
end
end Ge
namespace Ge
open Go Gx
def RRd (H : AHeap) (rb : Nat) (st : Rd) : Prop := ∃ (S : ByteArray) (a : Nat) (e : Int), H.get rb = some (.cells [.string S, .int .i64 (a : Int), .int .i64 e] 86 true 0) ∧ S.size ≤ 1000000 ∧ a ≤ S.size ∧ (e = 0 ↔ st.isSome = true) ∧ ∀ l, st = some l → l = (bl S).drop a
section
variable {k rb : Nat} {H H' : AHeap} {st : Rd}
theorem RRd.chg {S : Nat → Prop} (P : RRd H rb st) (hr : rb < H.next) (c : Chg S H H') (hs : ¬ S rb) : RRd H' rb st := by
 obtain ⟨s, a, e, h1, h2⟩ := P
 exact ⟨s, a, e, c.got hr hs h1, h2⟩
theorem RRd.keeps (P : RRd H rb st) (hr : rb < H.next) (c : Keeps H H') : RRd H' rb st := P.chg hr c fun f => f
theorem RRd.ok {S : ByteArray} {a : Nat} (g : H.get rb = some (.cells [.string S, .int .i64 (a : Int), .int .i64 0] 86 true 0)) (hl : S.size ≤ 1000000) (ha : a ≤ S.size) : RRd H rb (some ((bl S).drop a)) := ⟨S, a, 0, g, hl, ha, by simp, fun l' h => by cases h; rfl⟩
theorem RRd.bad {S : ByteArray} {a : Nat} {e : Int} (g : H.get rb = some (.cells [.string S, .int .i64 (a : Int), .int .i64 e] 86 true 0)) (hl : S.size ≤ 1000000) (ha : a ≤ S.size) (he : e ≠ 0) : RRd H rb none := ⟨S, a, e, g, hl, ha, by simpa using he, fun l h => by cases h⟩
section
variable {S : ByteArray} {a : Nat} {e : Int}
end
end
end Ge
namespace Ge
open Go Gx
def RRx (S : ByteArray) (H : AHeap) (rb : Nat) (st : Rd) : Prop := ∃ (a : Nat) (e : Int), H.get rb = some (.cells [.string S, .int .i64 (a : Int), .int .i64 e] 86 true 0) ∧ S.size ≤ 9000000000000000000 ∧ a ≤ S.size ∧ (e = 0 ↔ st.isSome = true) ∧ ∀ l, st = some l → l = (bl S).drop a
section
variable {k rb : Nat} {H H' : AHeap} {st : Rd} {S : ByteArray}
theorem RRx.ok {a : Nat} (g : H.get rb = some (.cells [.string S, .int .i64 (a : Int), .int .i64 0] 86 true 0)) (hl : S.size ≤ 9000000000000000000) (ha : a ≤ S.size) : RRx S H rb (some ((bl S).drop a)) := ⟨a, 0, g, hl, ha, by simp, fun l' h => by cases h; rfl⟩
theorem RRx.bad {a : Nat} {e : Int} (g : H.get rb = some (.cells [.string S, .int .i64 (a : Int), .int .i64 e] 86 true 0)) (hl : S.size ≤ 9000000000000000000) (ha : a ≤ S.size) (he : e ≠ 0) : RRx S H rb none := ⟨a, e, g, hl, ha, by simpa using he, fun l h => by cases h⟩
end
end Ge
namespace Ge
open Go Gx
abbrev Sq := List UInt8 × Nat × Nat
def numB (n : Nat) : List UInt8 := if n < 15 then [] else List.replicate ((n - 15) / 255) 255 ++ [UInt8.ofNat ((n - 15) % 255)]
def tokB (a d n : Nat) : UInt8 := UInt8.ofNat (min a 15 * 16 + if 0 < d then min (n - 4) 15 else 0)
def seqB (l : List UInt8) (d n : Nat) : List UInt8 := tokB l.length d n :: numB l.length ++ l ++ if 0 < d then UInt8.ofNat (d % 256) :: UInt8.ofNat (d / 256) :: numB (n - 4) else []
end Ge
namespace Ge
open Go Gx
def lcp : List UInt8 → List UInt8 → Nat
 | a :: x, b :: y => if a = b then lcp x y + 1 else 0
 | _, _ => 0
abbrev Fr := List UInt8 × Nat × Nat
def four (s : List UInt8) (i : Nat) : List UInt8 := (s.drop i).take 4
def bestA (s : List UInt8) (i : Nat) : Nat → Nat × Nat
 | 0 => (0, 0)
 | n + 1 => if (bestA s i n).2 < lcp (s.drop (i - (n + 1))) (s.drop i) then (n + 1, lcp (s.drop (i - (n + 1))) (s.drop i)) else bestA s i n
def bestF (s : List UInt8) (i : Nat) (es : List Fr) : Nat × Nat :=
 match lkM (four s i) es with
 | some v => if i - v ≤ 65535 ∧ (bestA s i (min 64 i)).2 < lcp (s.drop v) (s.drop i) then (i - v, lcp (s.drop v) (s.drop i)) else bestA s i (min 64 i)
 | none => bestA s i (min 64 i)
def put1 (s : List UInt8) (i : Nat) (es : List Fr) : List Fr := if i + 4 ≤ s.length then ptM (four s i) i es.length es else es
def putN (s : List UInt8) : Nat → Nat → List Fr → List Fr
 | 0, _, es => es
 | n + 1, i, es => putN s n (i + 1) (put1 s i es)
def packL (s : List UInt8) : Nat → Nat → Nat → List Fr → List UInt8 → List UInt8
 | 0, _, _, _, out => out
 | f + 1, i, kept, es, out =>
  if i + 4 < s.length then
   if 4 ≤ min (bestF s i es).2 (s.length - 1 - i) then
    packL s f (i + min (bestF s i es).2 (s.length - 1 - i)) (i + min (bestF s i es).2 (s.length - 1 - i)) (putN s (min (bestF s i es).2 (s.length - 1 - i)) i es)
     (out ++ seqB ((s.take i).drop kept) (bestF s i es).1 (min (bestF s i es).2 (s.length - 1 - i)))
   else packL s f (i + 1) kept (putN s 1 i es) out
  else out ++ seqB (s.drop kept) 0 0
def packA (s : List UInt8) : List UInt8 := packL s (s.length + 1) 0 0 [] []
theorem bestA_ok (s : List UInt8) (i : Nat) : ∀ n, n ≤ 64 → n ≤ i → (bestA s i n).2 = 0 ∨ (0 < (bestA s i n).1 ∧ (bestA s i n).1 ≤ 65535 ∧ (bestA s i n).1 ≤ i ∧ (bestA s i n).2 = lcp (s.drop (i - (bestA s i n).1)) (s.drop i))
 | 0, _, _ => .inl rfl
 | n + 1, h1, h2 => by
  unfold bestA
  split
  ·exact .inr ⟨by simp, by simp; omega, by simpa using h2, rfl⟩
  ·exact bestA_ok s i n (by omega) (by omega)
def Ahead (i : Nat) (es : List Fr) : Prop := ∀ e ∈ es, e.2.1 < i
theorem put1_ahead {s : List UInt8} {i : Nat} {es : List Fr} (h : Ahead i es) : Ahead (i + 1) (put1 s i es) := by
 intro e he
 unfold put1 at he
 split at he
 ·rcases ptM_mem he with ⟨_, g⟩ | g
  ·omega
  ·have := h e g; omega
 ·have := h e he; omega
theorem putN_ahead {s : List UInt8} : ∀ (n i : Nat) {es : List Fr}, Ahead i es → Ahead (i + n) (putN s n i es)
 | 0, i, es, h => h
 | n + 1, i, es, h => by
  have := putN_ahead (s := s) n (i + 1) (put1_ahead (s := s) h)
  rw [show i + (n + 1) = i + 1 + n by omega]; exact this
theorem bestF_ok {s : List UInt8} {i : Nat} {es : List Fr} (ha : Ahead i es) : (bestF s i es).2 = 0 ∨ (0 < (bestF s i es).1 ∧ (bestF s i es).1 ≤ 65535 ∧ (bestF s i es).1 ≤ i ∧ (bestF s i es).2 = lcp (s.drop (i - (bestF s i es).1)) (s.drop i)) := by
 have b := bestA_ok s i (min 64 i) (by omega) (by omega)
 unfold bestF
 split
 ·rename_i v hv
  obtain ⟨e, he, _, e2⟩ := lkM_mem hv
  have := ha e he
  split
  ·rename_i c
   exact .inr ⟨by simp; omega, c.1, by simp, by simp only []; rw [show i - (i - v) = v by omega]⟩
  ·exact b
 ·exact b
end Ge
namespace Ge
open Go Gx
theorem ldS_at {h : AHeap} {b o : Nat} {sp : Option Nat} {c : List Value} {e : TypeId} {r : Bool} {fz : Nat} {m : ByteArray} (hb : h.get b = some (.cells c e r fz)) (hc : c[o]? = some (.string m)) : Gx.ldS ⟨b, o, sp⟩ h = some m := by
 simp [Gx.ldS, AHeap.rd1, hb, hc, decS]
theorem ldM_at {h : AHeap} {b o : Nat} {sp : Option Nat} {c : List Value} {e : TypeId} {r : Bool} {fz : Nat} {m : Option Nat} (hb : h.get b = some (.cells c e r fz)) (hc : c[o]? = some (.map m)) : Gx.ldM ⟨b, o, sp⟩ h = some m := by
 simp [Gx.ldM, AHeap.rd1, hb, hc, decM]
structure RL (h : AHeap) (rb : Nat) (s : ByteArray) (p : Nat) (bad : Bool) : Prop where
 g : h.get rb = some (.cells [.string s, .int .i64 (p : Int), .bool bad] 170 true 0)
 lt : rb < h.next
section
variable {k rb p : Nat} {h h' : AHeap} {s : ByteArray} {b : Bool}
theorem RL.chg {S : Nat → Prop} (R : RL h rb s p b) (c : Chg S h h') (hs : ¬ S rb) : RL h' rb s p b := ⟨c.got R.lt hs R.g, Nat.lt_of_lt_of_le R.lt c.nx⟩
theorem RL.keeps (R : RL h rb s p b) (c : Keeps h h') : RL h' rb s p b := R.chg c fun f => f
end
end Ge
namespace Ge
open Go Gx
section
variable {f a b long : Nat} {tok d0 d1 : UInt8} {l l1 l2 l3 : List UInt8}
end
end Ge
namespace Ge
open Go Gx
section
variable {k rb p : Nat} {h h' : AHeap} {s : ByteArray} {b : Bool}
end
section
variable {k rb : Nat} {s : ByteArray}
end
end Ge
namespace Ge
open Go Gx
section
variable {k : Nat} {s : ByteArray} {h : AHeap}
end
section
variable {ob r : Nat} {H : AHeap} {out : List UInt8}
end
section
variable {k ob N : Nat} {D : CallF}
end
end Ge
namespace Ge
open Go Gx
theorem hi4 : ∀ a : Fin 256, IntKind.wrap .i64 (IntKind.wrap .u8 (Int.tdiv (a.val : Int) 16)) = ((a.val / 16 : Nat) : Int) := by decide +kernel
theorem lo4 : ∀ a : Fin 256, IntKind.wrap .i64 (Int.tmod (a.val : Int) 16) = ((a.val % 16 : Nat) : Int) := by decide +kernel
section
variable {k p : Nat} {h : AHeap} {s : ByteArray}
end
end Ge
namespace Ge
open Go Gx
theorem acc_bytes {base : Nat} {h : AHeap} {s : Slc} {xs : List UInt8} {e : TypeId} (A : Acc encB e base h s xs) : bytesOf h s = some ⟨⟨xs⟩⟩ := by
 rcases A.st with ⟨rfl, rfl⟩ | ⟨b, g⟩
 ·rfl
 ·rw [g.s]; exact bytesOf_out g.2
section
variable {k : Nat} {D : CallF} {h0 : AHeap} {l : Slc} {qs : List Sq}
end
end Ge
namespace Ge
open Go Gx
def vI (n : Nat) : Value := .int .i64 (n : Int)
theorem four_len {l : List UInt8} {i : Nat} (h : i + 4 ≤ l.length) : (four l i).length = 4 := by simp [four]; omega
theorem four_eq {l : List UInt8} {i : Nat} {a b c d : UInt8} (ha : l[i]? = some a) (hb : l[i + 1]? = some b) (hc : l[i + 2]? = some c) (hd : l[i + 3]? = some d) : four l i = [a, b, c, d] := by
 unfold four
 rw [dropc ha, dropc hb, dropc hc, dropc hd]; rfl
section
variable {k pb : Nat} {h : AHeap} {s : ByteArray} {m : Option Nat}
theorem four_spec (D : CallF) (g : h.get pb = some (.cells [.string s, .map m] 75 true 0)) (hl : pb < h.next) {i : Nat} (hi : i + 4 ≤ s.size) (hs : s.size ≤ 1048576) :
  Gx.Wp (lz_packer_four k D (some ⟨pb, 0, none⟩) (i : Int) h) fun z => Value.agg ⟨[.int .u8 z.1.1, .int .u8 z.1.2.1, .int .u8 z.1.2.2.1, .int .u8 z.1.2.2.2]⟩ = keyV (four (bl s) i) ∧ Keeps h z.2 := by
 simp only [lz_packer_four]
 obtain ⟨a, ha⟩ := isome (l := bl s) (i := i) (by rw [bl_length]; omega)
 obtain ⟨b, hb⟩ := isome (l := bl s) (i := i + 1) (by rw [bl_length]; omega)
 obtain ⟨c, hc⟩ := isome (l := bl s) (i := i + 2) (by rw [bl_length]; omega)
 obtain ⟨d, hd⟩ := isome (l := bl s) (i := i + 3) (by rw [bl_length]; omega)
 refine Wp.newE fun h1 e1 k1 n1 g1 => ?_
 have g' := k1.got hl g
 rw [Gx.w1 (by omega), show IntKind.wrap .i64 ((i : Int) + 2) = ((i + 2 : Nat) : Int) by rw [Gx.w64 _ (by omega)]; omega, show IntKind.wrap .i64 ((i : Int) + 3) = ((i + 3 : Nat) : Int) by rw [Gx.w64 _ (by omega)]; omega]
 refine .bnd rfl (.bnd (ldS_at g' rfl) (.bnd (idxS_of ha) (.bnd rfl (.bnd (ldS_at g' rfl) (.bnd (idxS_of hb) (.bnd rfl (.bnd (ldS_at g' rfl) (.bnd (idxS_of hc) (.bnd rfl (.bnd (ldS_at g' rfl) (.bnd (idxS_of hd) ?_)))))))))))
 refine Wp.stL g1 rfl rfl rfl (by decide) fun h14 c14 n14 g14 => .bnd (sldA_at g14 rfl) (.bnd (show decC [.i .u8, .i .u8, .i .u8, .i .u8] _ = some ((a.toNat : Int), (b.toNat : Int), (c.toNat : Int), (d.toNat : Int)) from rfl) (.of ⟨?_, k1.keepsS c14 fun y hy => by subst hy; omega⟩))
 rw [four_eq ha hb hc hd]; rfl
theorem alike_spec (D : CallF) (g : h.get pb = some (.cells [.string s, .map m] 75 true 0)) {f i : Nat} (hf : f < i) (hi : i ≤ s.size) (hs : s.size ≤ 1048576) (hk : s.size + 2 ≤ k) :
  lz_packer_alike k D (some ⟨pb, 0, none⟩) (f : Int) (i : Int) h = some (((lcp ((bl s).drop f) ((bl s).drop i) : Nat) : Int), h) := by
 simp only [lz_packer_alike]
 refine jn ?_
 obtain ⟨j3, h3⟩ : ∃ j3, j3 = (fun (n1 : Int) (h2 : AHeap) => some (n1, h2)) := ⟨_, rfl⟩
 rw [← h3]
 unfold lz_packer_alike_l0
 obtain ⟨bot, eb⟩ := iterK_of (fun _ _ _ _ _ => none) (lz_packer_alike_l0b k D j3) (show (s.size - i) + 1 ≤ k by omega)
 rw [eb]
 have loop : ∀ d n : Nat, i + n + d = s.size → iterK bot (d + 1) (lz_packer_alike_l0b k D j3) (some ⟨pb, 0, none⟩) (f : Int) (i : Int) (n : Int) h = some (((n + lcp ((bl s).drop (f + n)) ((bl s).drop (i + n)) : Nat) : Int), h) := fun d => by
  induction d with
  | zero =>
   intro n hd
   rw [iterK_s]; simp only [lz_packer_alike_l0b]
   refine jn ?_
   have e2 : (bl s).drop (i + n) = [] := List.drop_of_length_le (by rw [bl_length]; omega)
   have e3 : lcp ((bl s).drop (f + n)) [] = 0 := by cases (bl s).drop (f + n) <;> rfl
   rw [show IntKind.wrap .i64 ((i : Int) + (n : Int)) = ((i + n : Nat) : Int) by rw [Gx.w64 _ (by omega)]; omega]
   refine bnd rfl (bnd (ldS_at g rfl) (ifn (by simp; omega) (ifn (by decide) ?_)))
   rw [h3, e2, e3]; rfl
  | succ d ih =>
   intro n hd
   rw [iterK_s]; simp only [lz_packer_alike_l0b]
   refine jn ?_
   obtain ⟨a, ha⟩ := isome (l := bl s) (i := f + n) (by rw [bl_length]; omega)
   obtain ⟨b, hb⟩ := isome (l := bl s) (i := i + n) (by rw [bl_length]; omega)
   rw [show IntKind.wrap .i64 ((i : Int) + (n : Int)) = ((i + n : Nat) : Int) by rw [Gx.w64 _ (by omega)]; omega, show IntKind.wrap .i64 ((f : Int) + (n : Int)) = ((f + n : Nat) : Int) by rw [Gx.w64 _ (by omega)]; omega]
   refine bnd rfl (bnd (ldS_at g rfl) (ifp (by simp; omega) (bnd rfl (bnd (ldS_at g rfl) (bnd (idxS_of ha) (bnd rfl (bnd (ldS_at g rfl) (bnd (idxS_of hb) ?_))))))))
   rw [dropc ha, dropc hb]
   unfold lcp
   by_cases c : a = b
   ·rw [if_pos c]
    refine ifp (by rw [c]; simp) ?_
    rw [Gx.w1 (by omega), ih (n + 1) (by omega)]
    congr 3
    rw [show f + (n + 1) = f + n + 1 by omega, show i + (n + 1) = i + n + 1 by omega]
    omega
   ·rw [if_neg c]
    refine ifn ?_ ?_
    ·have : ¬ a.toNat = b.toNat := fun q => c (UInt8.toNat_inj.1 q)
     simp; omega
    ·rw [h3]; rfl
 have := loop (s.size - i) 0 (by omega)
 rw [Nat.add_zero, Nat.add_zero, Nat.zero_add] at this
 exact this
theorem best_spec (D : CallF) {mb : Nat} (g : h.get pb = some (.cells [.string s, .map (some mb)] 75 true 0)) (hl : pb < h.next) (hm : mb < h.next) {es : List Fr} (M : MapAt keyV vI h mb es) (k4 : ∀ e ∈ es, e.1.length = 4) {i : Nat} (ha : Ahead i es) (hi : i + 4 ≤ s.size) (hs : s.size ≤ 1048576) (hk : s.size + 100 ≤ k) :
  Gx.Wp (lz_packer_best k D (some ⟨pb, 0, none⟩) (i : Int) h) fun z => z.1 = (((bestF (bl s) i es).1 : Int), ((bestF (bl s) i es).2 : Int)) ∧ Keeps h z.2 := by
 simp only [lz_packer_best]
 refine Wp.jn fun j6 h6 => ?_
 unfold lz_packer_best_l0
 obtain ⟨n0, en0⟩ : ∃ n0, n0 = min 64 i := ⟨_, rfl⟩
 have en : (if (i : Int) < 64 then (i : Int) else 64) = (n0 : Int) := by
  by_cases z : i < 64
  ·rw [if_pos (by omega)]; omega
  ·rw [if_neg (by omega)]; omega
 obtain ⟨bot, eb⟩ := iterK_of (fun _ _ _ _ _ _ => none) (lz_packer_best_l0b k D j6) (show n0 + 1 ≤ k by omega)
 rw [eb]
 have fin : Gx.Wp (j6 (some ⟨pb, 0, none⟩) (i : Int) ((bestA (bl s) i n0).1 : Int) ((bestA (bl s) i n0).2 : Int) h) fun z => z.1 = (((bestF (bl s) i es).1 : Int), ((bestF (bl s) i es).2 : Int)) ∧ Keeps h z.2 := by
  rw [h6]
  refine .call (four_spec D g hl hi hs) fun r7 ⟨q7, k7⟩ => ?_
  have g7 := k7.got hl g
  have M7 := M.chg k7 hm (fun f => f)
  have lm : ldM ⟨pb, 0 + 1, none⟩ h = some (some mb) := ldM_at g rfl
  refine .bnd rfl (.bnd (ldM_at g7 rfl) (.gp (ssw1 (by dsimp only; rw [lm]; rfl)) ?_))
  rw [q7]
  have l4 := four_len (l := bl s) (i := i) (by rw [bl_length]; omega)
  have kq : ∀ e ∈ es, keyEq (keyV (four (bl s) i)) (keyV e.1) = some (decide (e.1 = four (bl s) i)) := fun e he => keyEq_V (by rw [l4, k4 e he])
  have lk := M7.look kq (dec := decI .i64) (dv := fun n : Nat => (n : Int)) (fun v => rfl) (z := .int .i64 0) (z0 := 0) rfl
  refine .bnd lk (Wp.jn fun j16 h16 => Wp.jn fun j24 h24 => ?_)
  have hb := bestA_ok (bl s) i (min 64 i) (by omega) (by omega)
  have ebF : bestF (bl s) i es = match lkM (four (bl s) i) es with
   | some v => if i - v ≤ 65535 ∧ (bestA (bl s) i n0).2 < lcp ((bl s).drop v) ((bl s).drop i) then (i - v, lcp ((bl s).drop v) ((bl s).drop i)) else bestA (bl s) i n0
   | none => bestA (bl s) i n0 := by rw [en0]; rfl
  cases hv : lkM (four (bl s) i) es with
  | none =>
   refine .ifn (by simp) ?_
   rw [h24]
   refine .ifn (by simp) ?_
   rw [h16]
   exact .of ⟨by rw [ebF, hv], k7⟩
  | some v =>
   obtain ⟨e, he, _, e2⟩ := lkM_mem hv
   have hvi := ha e he
   have ebF : bestF (bl s) i es = if i - v ≤ 65535 ∧ (bestA (bl s) i n0).2 < lcp ((bl s).drop v) ((bl s).drop i) then (i - v, lcp ((bl s).drop v) ((bl s).drop i)) else bestA (bl s) i n0 := by rw [ebF, hv]
   refine .ifp rfl ?_
   rw [h24]
   simp only []
   rw [show IntKind.wrap .i64 ((i : Int) - (v : Int)) = ((i - v : Nat) : Int) by rw [Gx.w64 _ (by omega)]; omega]
   by_cases c1 : i - v ≤ 65535
   ·refine .ifp (by simp; omega) (.bnd (alike_spec D g7 (by omega) (by omega) hs (by omega)) ?_)
    by_cases c2 : (bestA (bl s) i n0).2 < lcp ((bl s).drop v) ((bl s).drop i)
    ·rw [if_pos ⟨c1, c2⟩] at ebF
     rw [h16]
     exact .ifp (by simp; omega) (.of ⟨by rw [ebF], k7⟩)
    ·rw [if_neg (fun q => c2 q.2)] at ebF
     rw [h16]
     exact .ifn (by simp; omega) (.of ⟨by rw [ebF], k7⟩)
   ·rw [if_neg (fun q => c1 q.1)] at ebF
    refine .ifn (by simp; omega) ?_
    rw [h16]
    exact .of ⟨by rw [ebF], k7⟩
 have loop : ∀ d n : Nat, n + d = n0 → Gx.Wp (iterK bot (d + 1) (lz_packer_best_l0b k D j6) (some ⟨pb, 0, none⟩) (i : Int) ((bestA (bl s) i n).1 : Int) ((bestA (bl s) i n).2 : Int) ((n + 1 : Nat) : Int) h) fun z => z.1 = (((bestF (bl s) i es).1 : Int), ((bestF (bl s) i es).2 : Int)) ∧ Keeps h z.2 := fun d => by
  induction d with
  | zero =>
   intro n hd
   rw [iterK_s]; simp only [lz_packer_best_l0b]
   rw [en]
   refine .ifn (by simp; omega) ?_
   obtain rfl : n = n0 := by omega
   exact fin
  | succ d ih =>
   intro n hd
   rw [iterK_s]; simp only [lz_packer_best_l0b]
   rw [en]
   refine .ifp (by simp; omega) (Wp.jn fun j39 h39 => ?_)
   rw [show IntKind.wrap .i64 ((i : Int) - ((n + 1 : Nat) : Int)) = ((i - (n + 1) : Nat) : Int) by rw [Gx.w64 _ (by omega)]; omega]
   refine .bnd (alike_spec D g (by omega) (by omega) hs (by omega)) ?_
   have := ih (n + 1) (by omega)
   rw [h39]
   dsimp only
   rw [Gx.w1 (by omega)]
   unfold bestA at this
   by_cases c : (bestA (bl s) i n).2 < lcp ((bl s).drop (i - (n + 1))) ((bl s).drop i)
   ·rw [if_pos c] at this
    exact .ifp (by simp; omega) this
   ·rw [if_neg c] at this
    exact .ifn (by simp; omega) this
 exact loop n0 0 (by omega)
end
end Ge
namespace Ge
open Go Gx
structure WB (H : AHeap) (wb : Nat) (o : Slc) (out : List UInt8) : Prop where
 g : H.get wb = some (.cells [.slice o.a o.len o.cap] 78 true 0)
 A : Acc encB 5 (wb + 1) H o out
 lt : wb < H.next
section
variable {k wb : Nat} {H H' : AHeap} {o : Slc} {out : List UInt8} {D : CallF}
theorem WB.keeps (B : WB H wb o out) (c : Keeps H H') : WB H' wb o out := ⟨c.got B.lt B.g, B.A.keeps c, Nat.lt_of_lt_of_le B.lt c.nx⟩
theorem WB.chg {S : Nat → Prop} (B : WB H wb o out) (c : Chg S H H') (h1 : ∀ y, S y → y < wb ∨ H.next ≤ y) : WB H' wb o out := by
 refine ⟨c.got B.lt (fun q => ?_) B.g, B.A.chg c fun a ha q => ?_, Nat.lt_of_lt_of_le B.lt c.nx⟩
 ·have := h1 _ q; have := B.lt; omega
 ·have := h1 _ q; have := B.A.lt a ha; omega
theorem WB.app (B : WB H wb o out) {ys : List UInt8} (hs : 2 * (out.length + ys.length) * 1 ≤ 281474976710656) :
  ∃ o' h1, appendA 1 1 5 H o (ys.map encB) ys.length = some (o', h1) ∧ ∃ h2, st1 ⟨wb, 0, none⟩ (.slice o'.a o'.len o'.cap) h1 = some h2 ∧ WB h2 wb o' (out ++ ys) ∧ Chg (fun y => wb ≤ y) H h2 := by
 obtain ⟨o', h1, a, A', c, d⟩ := B.A.app (fun _ => rfl) ys hs (by decide) B.lt
 have no : ¬ ofS o wb := fun ⟨z, hz, e⟩ => by have := (B.A.lt z hz).2; omega
 have g1 := c.got B.lt no B.g
 have nx := c.nx
 refine ⟨o', h1, a, _, st1_of g1 (by simp) rfl, ⟨by simp, A'.chg (Chg.set (S := (· = wb)) (.inr rfl)) fun z hz e => ?_, by show wb < h1.next; have := B.lt; omega⟩, ?_⟩
 ·have e : z.block = wb := e
  have := (A'.lt z hz).2
  omega
 ·refine Chg.trans (c.wk fun y _ ⟨z, hz, e⟩ => by have := (B.A.lt z hz).2; omega) (Chg.set (.inr (Nat.le_refl _)))
theorem atWb {h h' : AHeap} (c : Keeps h h') : Chg (fun y => wb ≤ y) h h' := Chg.keeps c
theorem WB.put {R : Type} {Q : R → Prop} (B : WB H wb o out) {ys : List UInt8} (hs : 2 * (out.length + ys.length) * 1 ≤ 281474976710656) {f : AHeap → Option R} (J : ∀ o' h2, WB h2 wb o' (out ++ ys) → Chg (fun y => wb ≤ y) H h2 → Gx.Wp (f h2) Q) :
  Gx.Wp ((appendA 1 1 5 H o (ys.map encB) ys.length).bind fun r => (some (⟨wb, 0, none⟩ : Addr)).bind fun p => (st1 (⟨p.block, p.off + 0, none⟩ : Addr) (.slice r.1.a r.1.len r.1.cap) r.2).bind f) Q := by
 obtain ⟨o', h1, a, h2, b, B', c⟩ := B.app hs
 exact .bnd a (.bnd rfl (.bnd b (J o' h2 B' c)))
theorem rdS_bytes {h : AHeap} {n : Nat} {l : List UInt8} (hn : l.length = n) (g : H = h.new (.cells (l.map encB) 5 true 0)) : Gx.rdS 1 ⟨some ⟨h.next, 0, some 0⟩, n, n⟩ H = some (l.map encB) := by
 subst hn; subst g
 have := rdL_all (h := h.new (.cells (l.map encB) 5 true 0)) (b := h.next) (c := l.map encB) (e := 5) (r := true) (fz := 0) (by simp)
 simpa [Gx.rdS] using this
theorem wrap8 (n : Nat) : Value.int .u8 (IntKind.wrap .u8 (n : Int)) = encB (UInt8.ofNat n) := by
 unfold encB
 rw [UInt8.toNat_ofNat', IntKind.wrap_u8]
 rfl
theorem wnumber_spec (B : WB H wb o out) {n : Nat} (hn : n ≤ 3000000) (ho : out.length ≤ 4000000) (hk : 20000 ≤ k) :
  Gx.Wp (lz_writer_number k D (some ⟨wb, 0, none⟩) (n : Int) H) fun z => ∃ o', WB z.2 wb o' (out ++ numB n) ∧ Chg (fun y => wb ≤ y) H z.2 := by
 simp only [lz_writer_number]
 by_cases c : n < 15
 ·refine .ifp (by simp; omega) (.of ⟨o, ?_, Chg.refl _ _⟩)
  rw [numB, if_pos c, List.append_nil]; exact B
 ·refine .ifn (by simp; omega) (Wp.jn fun j4 h4 => ?_)
  rw [show IntKind.wrap .i64 ((n : Int) - 15) = ((n - 15 : Nat) : Int) by rw [Gx.w64 _ (by omega)]; omega]
  unfold lz_writer_number_l0
  obtain ⟨q, eq⟩ : ∃ q, q = (n - 15) / 255 := ⟨_, rfl⟩
  obtain ⟨bot, eb⟩ := iterK_of (fun _ _ _ => none) (lz_writer_number_l0b k D j4) (show q + 1 ≤ k by omega)
  rw [eb, numB, if_neg c]
  have loop : ∀ (d : Nat) (o : Slc) (out : List UInt8) (H1 : AHeap) (m : Nat), m / 255 = d → m ≤ 3000000 → out.length + d ≤ 5000000 → WB H1 wb o out → Chg (fun y => wb ≤ y) H H1 →
    Gx.Wp (iterK bot (d + 1) (lz_writer_number_l0b k D j4) (some ⟨wb, 0, none⟩) (m : Int) H1) fun z => ∃ o', WB z.2 wb o' (out ++ (List.replicate d 255 ++ [UInt8.ofNat (m % 255)])) ∧ Chg (fun y => wb ≤ y) H z.2 := fun d => by
   induction d with
   | zero =>
    intro o out H1 m hd hm hl B cc
    rw [iterK_s]; simp only [lz_writer_number_l0b]
    refine .ifn (by simp; omega) ?_
    rw [h4]
    refine .bnd rfl (.bnd (sldL_at B.g rfl) (Wp.newE fun h7 e7 k7 n7 g7 => ?_))
    rw [wrap8] at e7
    refine .bnd (rdS_bytes (l := [UInt8.ofNat m]) rfl e7) ((B.keeps k7).put (ys := [UInt8.ofNat m]) (by simp; omega) fun o' h2 B' c' => .of ⟨o', ?_, (cc.trans (atWb k7)).trans c'⟩)
    rw [List.replicate_zero, List.nil_append, show m % 255 = m by omega]
    exact B'
   | succ d ih =>
    intro o out H1 m hd hm hl B cc
    rw [iterK_s]; simp only [lz_writer_number_l0b]
    refine .ifp (by simp; omega) (.bnd rfl (.bnd (sldL_at B.g rfl) (Wp.newE fun h7 e7 k7 n7 g7 => ?_)))
    refine .bnd (rdS_bytes (l := [255]) rfl e7) ((B.keeps k7).put (ys := [255]) (by simp; omega) fun o' h2 B' c' => ?_)
    rw [show IntKind.wrap .i64 ((m : Int) - 255) = ((m - 255 : Nat) : Int) by rw [Gx.w64 _ (by omega)]; omega]
    refine .mono (ih o' (out ++ [255]) h2 (m - 255) (by omega) (by omega) (by simp; omega) B' ((cc.trans (atWb k7)).trans c')) fun z ⟨o2, w1, w2⟩ => ⟨o2, ?_, w2⟩
    have e : out ++ [255] ++ (List.replicate d 255 ++ [UInt8.ofNat ((m - 255) % 255)]) = out ++ (List.replicate (d + 1) 255 ++ [UInt8.ofNat (m % 255)]) := by
     rw [show (m - 255) % 255 = m % 255 by omega, List.replicate_succ]
     simp
    rw [← e]
    exact w1
  have := loop q o out H (n - 15) eq.symm (by omega) (by omega) B (Chg.refl _ _)
  rw [← eq]
  exact this
theorem tokOr : ∀ a b : Fin 16, Go.bits .or .i64 (IntKind.wrap .i64 ((a.val : Int) * 16)) (b.val : Int) = ((a.val * 16 + b.val : Nat) : Int) := by decide +kernel
theorem numB_len (n : Nat) : (numB n).length ≤ n + 1 := by
 unfold numB
 split
 ·simp
 ·simp; omega
theorem sequence_spec (B : WB H wb o out) (ls : ByteArray) (hls : ls.size ≤ 1048576) {d n : Nat} (hd : d ≤ 65535) (hn : 4 ≤ n ∨ d = 0) (hn2 : n ≤ 1048576) (ho : out.length ≤ 1500000) (hk : 20000 ≤ k) :
  Gx.Wp (lz_writer_sequence k D (some ⟨wb, 0, none⟩) ls (d : Int) (n : Int) H) fun z => ∃ o', WB z.2 wb o' (out ++ seqB (bl ls) d n) ∧ Chg (fun y => wb ≤ y) H z.2 := by
 simp only [lz_writer_sequence]
 obtain ⟨a, ea⟩ : ∃ a, a = min ls.size 15 := ⟨_, rfl⟩
 have e1 : (if (15 : Int) < (ls.size : Int) then (15 : Int) else (ls.size : Int)) = (a : Int) := by
  by_cases z : 15 < ls.size
  ·rw [if_pos (by omega)]; omega
  ·rw [if_neg (by omega)]; omega
 rw [e1]
 refine Wp.jn fun j8 h8 => ?_
 have J : ∀ t : Int, Value.int .u8 (IntKind.wrap .u8 t) = encB (tokB (bl ls).length d n) → Gx.Wp (j8 (some ⟨wb, 0, none⟩) ls (d : Int) (n : Int) t H) fun z => ∃ o', WB z.2 wb o' (out ++ seqB (bl ls) d n) ∧ Chg (fun y => wb ≤ y) H z.2 := by
  intro t ht
  rw [h8]
  have ll : (bl ls).length = ls.size := bl_length ls
  have lnb := numB_len ls.size
  have lnb2 := numB_len (n - 4)
  refine .bnd rfl (.bnd (sldL_at B.g rfl) (Wp.newE fun h11 e11 k11 n11 g11 => ?_))
  rw [ht] at e11
  refine .bnd (rdS_bytes (l := [tokB (bl ls).length d n]) rfl e11) ((B.keeps k11).put (ys := [tokB (bl ls).length d n]) (by simp; omega) fun o1 h15 B1 c1 => ?_)
  have x1 : Chg (fun y => wb ≤ y) H h15 := (atWb k11).trans c1
  refine .call (wnumber_spec B1 (by omega) (by simp; omega) hk) fun r16 ⟨o2, B2, c2⟩ => ?_
  refine .bnd rfl (.bnd (sldL_at B2.g rfl) ?_)
  rw [bytesL_bl]
  refine B2.put (ys := bl ls) (by simp; omega) fun o3 h21 B3 c3 => ?_
  have x3 : Chg (fun y => wb ≤ y) H h21 := (x1.trans c2).trans c3
  have es : out ++ [tokB (bl ls).length d n] ++ numB ls.size ++ bl ls = out ++ (tokB (bl ls).length d n :: numB (bl ls).length ++ bl ls) := by rw [ll]; simp
  rw [es] at B3
  by_cases c : d = 0
  ·refine .ifn (by simp; omega) (.of ⟨o3, ?_, x3⟩)
   subst c
   unfold seqB
   rw [if_neg (by omega), List.append_nil]
   exact B3
  ·refine .ifp (by simp; omega) (.bnd rfl (.bnd (sldL_at B3.g rfl) (Wp.newE fun h24 e24 k24 n24 g24 => ?_)))
   rw [show Int.fdiv (d : Int) 256 = ((d / 256 : Nat) : Int) by rw [Int.fdiv_eq_ediv_of_nonneg _ (by decide)]; omega, wrap8, wrap8] at e24
   have e25 : UInt8.ofNat d = UInt8.ofNat (d % 256) := by
    apply UInt8.toNat_inj.1
    rw [UInt8.toNat_ofNat', UInt8.toNat_ofNat']; omega
   have lo3 : (out ++ (tokB (bl ls).length d n :: numB (bl ls).length ++ bl ls)).length ≤ out.length + 1 + (ls.size + 1) + ls.size := by
    simp only [List.length_append, List.length_cons]; rw [ll]; omega
   refine .bnd (rdS_bytes (l := [UInt8.ofNat d, UInt8.ofNat (d / 256)]) rfl e24) ((B3.keeps k24).put (ys := [UInt8.ofNat d, UInt8.ofNat (d / 256)]) (by simp only [List.length_cons, List.length_nil]; omega) fun o4 h28 B4 c4 => ?_)
   rw [show IntKind.wrap .i64 ((n : Int) - 4) = ((n - 4 : Nat) : Int) by rw [Gx.w64 _ (by omega)]; omega]
   refine .call (wnumber_spec B4 (by omega) (by rw [List.length_append]; simp only [List.length_cons, List.length_nil]; omega) hk) fun r29 ⟨o5, B5, c5⟩ => .of ⟨o5, ?_, ((x3.trans (atWb k24)).trans c4).trans c5⟩
   unfold seqB
   rw [if_pos (by omega), ← e25]
   have : out ++ (tokB (bl ls).length d n :: numB (bl ls).length ++ bl ls) ++ [UInt8.ofNat d, UInt8.ofNat (d / 256)] ++ numB (n - 4) = out ++ (tokB (bl ls).length d n :: numB (bl ls).length ++ bl ls ++ UInt8.ofNat d :: UInt8.ofNat (d / 256) :: numB (n - 4)) := by simp
   rw [← this]
   exact B5
 have ll : (bl ls).length = ls.size := bl_length ls
 by_cases c : d = 0
 ·refine .ifn (by simp; omega) (J _ ?_)
  have : IntKind.wrap .i64 ((a : Int) * 16) = ((a * 16 : Nat) : Int) := by rw [Gx.w64 _ (by omega)]; omega
  rw [this, wrap8]
  unfold tokB
  rw [ll, if_neg (by omega), ea]; rfl
 ·refine .ifp (by simp; omega) ?_
  obtain ⟨b, eb⟩ : ∃ b, b = min (n - 4) 15 := ⟨_, rfl⟩
  have hn' := hn.resolve_right c
  have e2 : (if (15 : Int) < IntKind.wrap .i64 ((n : Int) - 4) then (15 : Int) else IntKind.wrap .i64 ((n : Int) - 4)) = (b : Int) := by
   rw [Gx.w64 _ (by omega)]
   by_cases z : 15 < n - 4
   ·rw [if_pos (by omega)]; omega
   ·rw [if_neg (by omega)]; omega
  simp only [e2]
  refine J _ ?_
  have eo : Go.bits .or .i64 (IntKind.wrap .i64 ((a : Int) * 16)) (b : Int) = ((a * 16 + b : Nat) : Int) := tokOr ⟨a, by omega⟩ ⟨b, by omega⟩
  rw [eo, wrap8]
  unfold tokB
  rw [ll, if_pos (by omega), ea, eb]
end
end Ge
namespace Ge
open Go Gx
theorem seqB_len {l : List UInt8} {d n : Nat} (hn : 4 ≤ n) : (seqB l d n).length ≤ 2 * (l.length + n) := by
 have h1 := numB_len l.length
 have h2 := numB_len (n - 4)
 unfold seqB
 split
 ·simp only [List.length_append, List.length_cons]; omega
 ·simp only [List.length_append, List.length_cons, List.length_nil]; omega
structure PK (h0 H : AHeap) (mb pb wb : Nat) (s : ByteArray) (es : List Fr) (o : Slc) (out : List UInt8) : Prop where
 kp : Keeps h0 H
 m : MapAt keyV vI H mb es
 p : H.get pb = some (.cells [.string s, .map (some mb)] 75 true 0)
 W : WB H wb o out
 lm : mb < pb
 lp : pb < wb
 lh : h0.next ≤ mb
 k4 : ∀ e ∈ es, e.1.length = 4
section
variable {k mb pb wb : Nat} {s : ByteArray} {es : List Fr} {o : Slc} {out : List UInt8} {D : CallF} {h0 H H' : AHeap}
theorem PK.keeps (P : PK h0 H mb pb wb s es o out) (c : Keeps H H') : PK h0 H' mb pb wb s es o out :=
 have := P.W.lt; have := P.lm; have := P.lp
 ⟨P.kp.trans c, P.m.chg c (by omega) (fun f => f), c.got (by omega) P.p, P.W.keeps c, P.lm, P.lp, P.lh, P.k4⟩
theorem keepsAll {h0 H H' : AHeap} {n : Nat} (k : Keeps h0 H) (c : Chg (fun y => n ≤ y) H H') (h : h0.next ≤ n) : Keeps h0 H' := k.keepsS c fun y hy => by have hy : n ≤ y := hy; omega
theorem put_loop {Q : (ByteArray × Int) × AHeap → Prop} {rec20 : ByteArray → (Option Addr) → (Option Addr) → Int → Int → AHeap → Option ((ByteArray × Int) × AHeap)} (kept : Int) (step : Nat) (hs : s.size ≤ 1048576) (hst : step ≤ 1048576) (bot) :
  ∀ (d j i : Nat) (es : List Fr) (H : AHeap), j + d = step → i + d ≤ s.size → PK h0 H mb pb wb s es o out → (∀ H', PK h0 H' mb pb wb s (putN (bl s) d i es) o out → Gx.Wp (rec20 s (some ⟨pb, 0, none⟩) (some ⟨wb, 0, none⟩) kept ((i + d : Nat) : Int) H') Q) →
  Gx.Wp (iterK bot (d + 1) (lz_Pack_l1b k D rec20) s (some ⟨pb, 0, none⟩) (some ⟨wb, 0, none⟩) kept (i : Int) (step : Int) (j : Int) H) Q := by
 intro d
 induction d with
 | zero =>
  intro j i es H hd hi P J
  rw [iterK_s]; simp only [lz_Pack_l1b]
  exact .ifn (by simp; omega) (J H P)
 | succ d ih =>
  intro j i es H hd hi P J
  rw [iterK_s]; simp only [lz_Pack_l1b]
  refine .ifp (by simp; omega) (Wp.jn fun j48 h48 => ?_)
  have go : ∀ H', PK h0 H' mb pb wb s (put1 (bl s) i es) o out → Gx.Wp (j48 s (some ⟨pb, 0, none⟩) (some ⟨wb, 0, none⟩) kept (i : Int) (step : Int) (j : Int) H') Q := fun H' P' => by
   rw [h48]
   dsimp only
   rw [Gx.w1 (by omega), Gx.w1 (by omega)]
   refine ih (j + 1) (i + 1) _ H' (by omega) (by omega) P' fun H'' P'' => ?_
   rw [show i + 1 + d = i + (d + 1) by omega]
   exact J H'' P''
  rw [show IntKind.wrap .i64 ((i : Int) + 4) = ((i + 4 : Nat) : Int) by rw [Gx.w64 _ (by omega)]; omega]
  have wl := P.W.lt; have ml := P.lm; have pl := P.lp
  by_cases c : i + 4 ≤ s.size
  ·refine .ifp (by simp; omega) (.call (four_spec D P.p (by omega) c hs) fun r49 ⟨q49, k49⟩ => ?_)
   have P9 := P.keeps k49
   refine .bnd rfl (.bnd (ldM_at P9.p rfl) (.gp (ssw1 (by rw [ldM_at (sp := none) (o := 0 + 1) P.p rfl]; rfl)) (.bnd rfl ?_)))
   rw [q49]
   have l4 := four_len (l := bl s) (i := i) (by rw [bl_length]; omega)
   obtain ⟨h', u1, u2, u3, u4⟩ := P9.m.upd (n := four (bl s) i) (fun e he => keyEq_V (by rw [l4, P.k4 e he])) i
   refine .bnd u1 (go h' ⟨keepsAll P9.kp (u3.wk fun y _ e => (by have e : y = mb := e; omega : mb ≤ y)) P.lh, ?_, u3.got (by have := P9.W.lt; omega) (by omega) P9.p, P9.W.chg u3 fun y e => .inl (by have e : y = mb := e; omega), P.lm, P.lp, P.lh, ?_⟩)
   ·unfold put1
    rw [if_pos (by rw [bl_length]; exact c)]
    exact u2
   ·unfold put1
    rw [if_pos (by rw [bl_length]; exact c)]
    intro e he
    rcases ptM_mem he with ⟨g, _⟩ | g
    ·rw [g]; exact l4
    ·exact P.k4 e g
  ·refine .ifn (by simp; omega) (go H ?_)
   unfold put1
   rw [if_neg (by rw [bl_length]; exact c)]
   exact P
theorem pack_loop {j8 : ByteArray → (Option Addr) → Int → AHeap → Option ((ByteArray × Int) × AHeap)}
  (hj : ∀ kept H o out, kept ≤ s.size → WB H wb o out → out.length ≤ 1000000 → Keeps h0 H → Gx.Wp (j8 s (some ⟨wb, 0, none⟩) (kept : Int) H) fun z => z.1 = (⟨⟨out ++ seqB ((bl s).drop kept) 0 0⟩⟩, 0) ∧ Keeps h0 z.2) (hs : s.size ≤ 500000) (hk : 600000 ≤ k) (bot) :
  ∀ (f i kept : Nat) (es : List Fr) (o : Slc) (out : List UInt8) (H : AHeap), s.size < i + f → i ≤ s.size → kept ≤ i → Ahead i es → out.length ≤ 2 * kept → PK h0 H mb pb wb s es o out →
  Gx.Wp (iterK bot f (lz_Pack_l0b k D j8) s (some ⟨pb, 0, none⟩) (some ⟨wb, 0, none⟩) (kept : Int) (i : Int) H) fun z => z.1 = (⟨⟨packL (bl s) f i kept es out⟩⟩, 0) ∧ Keeps h0 z.2 := by
 intro f
 induction f with
 | zero => intro i kept es o out H h1 h2; omega
 | succ f ih =>
  intro i kept es o out H h1 h2 h3 ha ho P
  rw [iterK_s]; simp only [lz_Pack_l0b]
  have wl := P.W.lt; have ml := P.lm; have pl := P.lp
  have sl : (bl s).length = s.size := bl_length s
  rw [show IntKind.wrap .i64 ((i : Int) + 4) = ((i + 4 : Nat) : Int) by rw [Gx.w64 _ (by omega)]; omega]
  unfold packL
  rw [sl]
  by_cases c : i + 4 < s.size
  rotate_left
  ·rw [if_neg c]
   exact .ifn (by simp; omega) (hj kept H o out (by omega) P.W (by omega) P.kp)
  rw [if_pos c]
  refine .ifp (by simp; omega) (.call (best_spec D P.p (by omega) (by omega) P.m P.k4 ha (by omega) (by omega) (by omega)) fun r21 ⟨q21, k21⟩ => ?_)
  have P1 := P.keeps k21
  rw [q21]
  obtain ⟨m, em⟩ : ∃ m, m = min (bestF (bl s) i es).2 (s.size - 1 - i) := ⟨_, rfl⟩
  rw [← em]
  have et : IntKind.wrap .i64 ((IntKind.wrap .i64 ((s.size : Int) - 1)) - (i : Int)) = ((s.size - 1 - i : Nat) : Int) := by rw [Gx.w64 ((s.size : Int) - 1) (by omega), Gx.w64 _ (by omega)]; omega
  have em2 : (if (((s.size - 1 - i : Nat) : Int)) < ((bestF (bl s) i es).2 : Int) then (((s.size - 1 - i : Nat) : Int)) else ((bestF (bl s) i es).2 : Int)) = (m : Int) := by
   by_cases z : s.size - 1 - i < (bestF (bl s) i es).2
   ·rw [if_pos (by omega)]; omega
   ·rw [if_neg (by omega)]; omega
  simp only [et, em2]
  refine Wp.jn fun j30 h30 => ?_
  have bo := bestF_ok (s := bl s) ha
  by_cases c4 : 4 ≤ m
  ·rw [if_pos c4]
   rcases bo with b | ⟨b1, b2, b3, b4⟩
   ·omega
   refine .ifp (by simp; omega) ?_
   have es1 : Gx.subS s (some (kept : Int)) (some (i : Int)) = some ⟨⟨((bl s).take i).drop kept⟩⟩ := subS_of rfl rfl h3 h2
   have sz1 : (⟨⟨((bl s).take i).drop kept⟩⟩ : ByteArray).size = i - kept := by rw [size_mk]; simp; omega
   refine .bnd es1 (.call (sequence_spec P1.W ⟨⟨((bl s).take i).drop kept⟩⟩ (by omega) b2 (.inl c4) (by omega) (by omega) (by omega)) fun r57 ⟨o', W', c'⟩ => ?_)
   rw [bl_mk] at W'
   have P2 : PK h0 r57.2 mb pb wb s es o' (out ++ seqB (((bl s).take i).drop kept) (bestF (bl s) i es).1 m) :=
    ⟨keepsAll P1.kp c' (by have := P.lh; omega), P1.m.chg c' (by have := P1.W.lt; omega) (by omega), c'.got (by have := P1.W.lt; omega) (by omega) P1.p, W', P.lm, P.lp, P.lh, P.k4⟩
   rw [show IntKind.wrap .i64 ((i : Int) + (m : Int)) = ((i + m : Nat) : Int) by rw [Gx.w64 _ (by omega)]; omega, h30]
   dsimp only
   unfold lz_Pack_l1
   obtain ⟨bot2, eb2⟩ := iterK_of (fun _ _ _ _ _ _ _ _ => none) (lz_Pack_l1b k D (iterK bot f (lz_Pack_l0b k D j8))) (show m + 1 ≤ k by omega)
   rw [eb2]
   have sq := seqB_len (l := ((bl s).take i).drop kept) (d := (bestF (bl s) i es).1) c4
   have sl2 : (((bl s).take i).drop kept).length = i - kept := by simp; omega
   rw [show (0 : Int) = ((0 : Nat) : Int) from rfl]
   refine put_loop _ m (by omega) (by omega) bot2 m 0 i es r57.2 (by omega) (by omega) P2 fun H' P3 => ?_
   exact ih (i + m) (i + m) _ o' _ H' (by omega) (by omega) (Nat.le_refl _) (putN_ahead m i ha) (by rw [List.length_append]; omega) P3
  ·rw [if_neg c4]
   refine .ifn (by simp; omega) ?_
   rw [h30]
   dsimp only
   unfold lz_Pack_l1
   obtain ⟨bot2, eb2⟩ := iterK_of (fun _ _ _ _ _ _ _ _ => none) (lz_Pack_l1b k D (iterK bot f (lz_Pack_l0b k D j8))) (show 1 + 1 ≤ k by omega)
   rw [eb2]
   rw [show (0 : Int) = ((0 : Nat) : Int) from rfl]
   refine put_loop _ 1 (by omega) (by omega) bot2 1 0 i es r21.2 (by omega) (by omega) P1 fun H' P3 => ?_
   exact ih (i + 1) kept _ o _ H' (by omega) (by omega) (by omega) (putN_ahead 1 i ha) ho P3
end
theorem pack_spec {k : Nat} {s : ByteArray} {h : AHeap} (D : CallF) (hs : s.size ≤ 500000) (hk : 600000 ≤ k) :
  Gx.Wp (lz_Pack k D s h) fun z => z.1 = (⟨⟨packA (bl s)⟩⟩, 0) ∧ Keeps h z.2 := by
 simp only [lz_Pack]
 refine .ifn (by simp; omega) (Wp.newE fun h1 e1 k1 n1 g1 => Wp.newE fun h2 e2 k2 n2 g2 => Wp.newE fun h3 e3 k3 n3 g3 => Wp.jn fun j8 h8 => ?_)
 unfold lz_Pack_l0
 obtain ⟨bot, eb⟩ := iterK_of (fun _ _ _ _ _ _ => none) (lz_Pack_l0b k D j8) (show s.size + 1 ≤ k by omega)
 rw [eb]
 have P : PK h h3 h.next h1.next h2.next s [] ⟨none, 0, 0⟩ [] :=
  ⟨(k1.trans k2).trans k3, Keeps.got (k2.trans k3) (by omega) g1, k3.got (by omega) g2, ⟨g3, Acc.nil _ _ _ _, by omega⟩, by omega, by omega, Nat.le_refl _, fun e he => by cases he⟩
 refine .mono (pack_loop ?_ hs hk bot (s.size + 1) 0 0 [] ⟨none, 0, 0⟩ [] h3 (by omega) (by omega) (by omega) (fun e he => by cases he) (by simp) P) fun z ⟨w1, w2⟩ => ⟨?_, w2⟩
 ·intro kept H o out hkept B hl kp
  rw [h8]
  have es1 : Gx.subS s (some (kept : Int)) none = some ⟨⟨((bl s).take s.size).drop kept⟩⟩ := subS_of rfl rfl hkept (Nat.le_refl _)
  rw [List.take_of_length_le (by rw [bl_length]; exact Nat.le_refl _)] at es1
  have sz1 : (⟨⟨(bl s).drop kept⟩⟩ : ByteArray).size ≤ s.size := by rw [size_mk, List.length_drop, bl_length]; omega
  refine .bnd es1 (.call (sequence_spec (d := 0) (n := 0) B ⟨⟨(bl s).drop kept⟩⟩ (by omega) (by omega) (.inr rfl) (by omega) (by omega) (by omega)) fun r10 ⟨o', B', c'⟩ => ?_)
  exact .bnd rfl (.bnd (sldL_at B'.g rfl) (.bnd (acc_bytes B'.A) (.of ⟨rfl, keepsAll kp c' (by omega)⟩)))
 ·rw [w1, packA, bl_length]
end Ge
namespace Ge.B
open Go Gx Go.Proofs
theorem rot_spec (k0 : Nat) (D : CallF) (x : UInt32) (h : AHeap) {q : Int} (n : Nat) (hn : 0 < n ∧ n < 32) (hq : Go.bits .and .u64 (IntKind.wrap .u64 q) 31 = ((32 - n : Nat) : Int)) : math_bits_RotateLeft32 k0 D (x.toNat : Int) q h = some (((rotr x n).toNat : Int), h) := by
 simp only [math_bits_RotateLeft32, hq]
 rw [if_pos (by omega)]
 have e2 : IntKind.wrap .u64 (32 - ((32 - n : Nat) : Int)) = ((n : Nat) : Int) := by
  rw [show (32 : Int) - ((32 - n : Nat) : Int) = (n : Int) by omega]
  exact wr_u64 _ (by omega) (by omega)
 rw [e2, if_pos (by omega), Int.toNat_natCast, Int.toNat_natCast]
 have m1 : min (32 - n) (IntKind.bits .u32) = 32 - n := Nat.min_eq_left (by show 32 - n ≤ 32; omega)
 have m2 : min n (IntKind.bits .u32) = n := Nat.min_eq_left (by show n ≤ 32; omega)
 rw [m1, m2]
 have p1 : (2 : Int) ^ (32 - n) = ((2 ^ (32 - n) : Nat) : Int) := by simp
 have p2 : (2 : Int) ^ n = ((2 ^ n : Nat) : Int) := by simp
 rw [p1, p2, shlU x (32 - n) (by omega), shrU x n (by omega), orU]
 rfl
theorem sp_l1 (K : Nat) (D : CallF) (j) (bot) {Q : List Value × AHeap → Prop} {h0 : AHeap} {b : Slc} {blk : List UInt8} (R : Row encB h0 b blk) (hl : blk.length = 64) {wb : Nat} (hwb : h0.next ≤ wb) {f : Nat → UInt32} (hf : ∀ i, i < 16 → f i = wAt blk i)
  (hj : ∀ h, Keeps h0 h → h.get wb = some (.cells (filU f 64 16) 174 true 0) → Wp (j (some ⟨wb, 0, none⟩) h) Q) :
  ∀ (d i : Nat) (h : AHeap), i + d = 16 → Keeps h0 h → h.get wb = some (.cells (filU f 64 i) 174 true 0) → Wp (iterK bot (d + 1) (sha_spread_l1b K D j) b (some ⟨wb, 0, none⟩) (i : Int) h) Q
 | 0, i, h, hi, kp, hb => by
  obtain rfl : i = 16 := by omega
  rw [iterK_s]; simp only [sha_spread_l1b]
  exact Wp.ifn (by simp) (hj h kp hb)
 | d + 1, i, h, hi, kp, hb => by
  rw [iterK_s]; simp only [sha_spread_l1b]
  refine Wp.ifp (by simp; omega) ?_
  obtain ⟨x0, g0⟩ := isome (l := blk) (i := 4 * i) (by omega)
  obtain ⟨x1, g1⟩ := isome (l := blk) (i := 4 * i + 1) (by omega)
  obtain ⟨x2, g2⟩ := isome (l := blk) (i := 4 * i + 2) (by omega)
  obtain ⟨x3, g3⟩ := isome (l := blk) (i := 4 * i + 3) (by omega)
  have R' := R.keeps kp
  obtain ⟨q0, a0, c0⟩ := R'.ldB g0
  obtain ⟨q1, a1, c1⟩ := R'.ldB g1
  obtain ⟨q2, a2, c2⟩ := R'.ldB g2
  obtain ⟨q3, a3, c3⟩ := R'.ldB g3
  have e0 : IntKind.wrap .i64 (4 * (i : Int)) = ((4 * i : Nat) : Int) := sw64 (by omega) (by omega)
  have e1 : IntKind.wrap .i64 (((4 * i : Nat) : Int) + 1) = ((4 * i + 1 : Nat) : Int) := sw64 (by omega) (by omega)
  have e2 : IntKind.wrap .i64 (((4 * i : Nat) : Int) + 2) = ((4 * i + 2 : Nat) : Int) := sw64 (by omega) (by omega)
  have e3 : IntKind.wrap .i64 (((4 * i : Nat) : Int) + 3) = ((4 * i + 3 : Nat) : Int) := sw64 (by omega) (by omega)
  rw [e0, e1, e2, e3]
  refine Wp.bnd a0 (Wp.bnd c0 (Wp.bnd a1 (Wp.bnd c1 (Wp.bnd a2 (Wp.bnd c2 (Wp.bnd a3 (Wp.bnd c3 (Wp.bnd rfl (Wp.bnd (sidxA (by omega)) ?_)))))))))
  rw [or_bytes]
  have ev : be32 x0 x1 x2 x3 = f i := by rw [hf i (by omega)]; unfold wAt; rw [g0, g1, g2, g3]; rfl
  rw [ev]
  have hst : st1 ⟨wb, i, none⟩ (.int .u32 ((f i).toNat : Int)) h = some (h.set wb (.cells (filU f 64 (i + 1)) 174 true 0)) := by
   rw [st1_of hb (by rw [filU_length (by omega)]; omega) rfl, filU_set (by omega)]
  refine Wp.bnd hst ?_
  rw [Gx.w1 (by omega)]
  exact sp_l1 K D j bot R hl hwb hf hj d (i + 1) _ (by omega) (kp.set hwb) (sset_get _ _ _)
theorem sp_l0 (K : Nat) (D : CallF) (j) (bot) {Q : List Value × AHeap → Prop} {h0 : AHeap} {wb : Nat} (hwb : h0.next ≤ wb) {m : Nat → UInt32}
  (hj : ∀ h, Keeps h0 h → h.get wb = some (.cells (filU (sched m) 64 64) 174 true 0) → Wp (j (some ⟨wb, 0, none⟩) h) Q) :
  ∀ (d i : Nat) (h : AHeap), i + d = 64 → 16 ≤ i → Keeps h0 h → h.get wb = some (.cells (filU (sched m) 64 i) 174 true 0) → Wp (iterK bot (d + 1) (sha_spread_l0b K D j) (some ⟨wb, 0, none⟩) (i : Int) h) Q
 | 0, i, h, hi, h16, kp, hb => by
  obtain rfl : i = 64 := by omega
  rw [iterK_s]; simp only [sha_spread_l0b]
  exact Wp.ifn (by simp) (hj h kp hb)
 | d + 1, i, h, hi, h16, kp, hb => by
  rw [iterK_s]; simp only [sha_spread_l0b]
  refine Wp.ifp (by simp; omega) ?_
  have e15 : IntKind.wrap .i64 ((i : Int) - 15) = ((i - 15 : Nat) : Int) := sw64 (by omega) (by omega)
  have e2 : IntKind.wrap .i64 ((i : Int) - 2) = ((i - 2 : Nat) : Int) := sw64 (by omega) (by omega)
  have e16 : IntKind.wrap .i64 ((i : Int) - 16) = ((i - 16 : Nat) : Int) := sw64 (by omega) (by omega)
  have e7 : IntKind.wrap .i64 ((i : Int) - 7) = ((i - 7 : Nat) : Int) := sw64 (by omega) (by omega)
  rw [e15, e2, e16, e7]
  have ld : ∀ jj, jj < i → ldI .u32 ⟨wb, jj, none⟩ h = some ((sched m jj).toNat : Int) := fun jj hjj => sldI_at hb (filU_get hjj)
  refine Wp.bnd rfl (Wp.bnd (sidxA (by omega)) (Wp.bnd (ld _ (by omega)) (Wp.bnd rfl (Wp.bnd (sidxA (by omega)) (Wp.bnd (ld _ (by omega)) ?_)))))
  refine Wp.bnd (rot_spec K D _ h 7 (by decide) (by decide)) (Wp.bnd (rot_spec K D _ h 18 (by decide) (by decide)) (Wp.bnd (rot_spec K D _ h 17 (by decide) (by decide)) (Wp.bnd (rot_spec K D _ h 19 (by decide) (by decide)) ?_)))
  refine Wp.bnd rfl (Wp.bnd (sidxA (by omega)) (Wp.bnd (ld _ (by omega)) (Wp.bnd rfl (Wp.bnd (sidxA (by omega)) (Wp.bnd (ld _ (by omega)) (Wp.bnd rfl (Wp.bnd (sidxA (by omega)) ?_)))))))
  have s3 : Int.fdiv ((sched m (i - 15)).toNat : Int) 8 = ((sched m (i - 15) >>> 3).toNat : Int) := shrU _ 3 (by decide)
  have s10 : Int.fdiv ((sched m (i - 2)).toNat : Int) 1024 = ((sched m (i - 2) >>> 10).toNat : Int) := shrU _ 10 (by decide)
  simp only [s3, s10, xorU, addU]
  have ev : sched m (i - 16) + (rotr (sched m (i - 15)) 7 ^^^ rotr (sched m (i - 15)) 18 ^^^ sched m (i - 15) >>> 3) + sched m (i - 7) + (rotr (sched m (i - 2)) 17 ^^^ rotr (sched m (i - 2)) 19 ^^^ sched m (i - 2) >>> 10) = sched m i := (sched_hi h16).symm
  rw [ev]
  have hst : st1 ⟨wb, i, none⟩ (.int .u32 ((sched m i).toNat : Int)) h = some (h.set wb (.cells (filU (sched m) 64 (i + 1)) 174 true 0)) := by
   rw [st1_of hb (by rw [filU_length (by omega)]; omega) rfl, filU_set (by omega)]
  refine Wp.bnd hst ?_
  rw [Gx.w1 (by omega)]
  exact sp_l0 K D j bot hwb hj d (i + 1) _ (by omega) (by omega) (kp.set hwb) (sset_get _ _ _)
theorem spread_spec {k0 : Nat} (hk : 100 ≤ k0) (D : CallF) {h : AHeap} {b : Slc} {blk : List UInt8} (R : Row encB h b blk) (hl : blk.length = 64) :
  Wp (sha_spread k0 D b h) fun r => r.1 = (List.range 64).map (fun i => encU (sched (wAt blk) i)) ∧ Keeps h r.2 := by
 simp only [sha_spread]
 let h1 := h.new (.cells (List.replicate 64 (.int .u32 0)) 174 true 0)
 have k1 : Keeps h h1 := Keeps.new h _
 have g1 : h1.get h.next = some (.cells (filU (sched (wAt blk)) 64 0) 174 true 0) := by rw [filU_zero]; simp [h1]
 refine Wp.jn fun j1 hj1 => ?_
 unfold sha_spread_l1
 obtain ⟨bot1, e1⟩ := iterK_of (fun _ _ _ _ => none) (sha_spread_l1b k0 D j1) (show 16 + 1 ≤ k0 by omega)
 rw [e1]
 refine sp_l1 k0 D j1 bot1 R hl (Nat.le_refl _) (f := sched (wAt blk)) (fun i hi => sched_lo hi) ?_ 16 0 h1 (by omega) k1 g1
 intro h2 k2 g2
 subst hj1
 refine Wp.jn fun j2 hj2 => ?_
 unfold sha_spread_l0
 obtain ⟨bot2, e2⟩ := iterK_of (fun _ _ _ => none) (sha_spread_l0b k0 D j2) (show 48 + 1 ≤ k0 by omega)
 rw [e2]
 refine sp_l0 k0 D j2 bot2 (Nat.le_refl _) ?_ 48 16 h2 (by omega) (by omega) k2 g2
 intro h3 k3 g3
 subst hj2
 rw [filU_all] at g3
 obtain ⟨L, hL⟩ : ∃ L, L = (List.range 64).map fun i => encU (sched (wAt blk) i) := ⟨_, rfl⟩
 rw [← hL] at g3 ⊢
 have hlen : L.length = 64 := by rw [hL]; simp
 have l3 := sldA_at (sp := none) g3 hlen
 have s3 := sstL_at (sp := none) g3 hlen hlen (by rw [hL]; exact allOne_U _ _) (by decide)
 have l4 := sldA_at (sp := none) (sset_get h3 h.next (.cells L 174 true 0)) hlen
 have hd : decA 64 (.agg ⟨L⟩) = some L := by
  show (bif Nat.beq L.length 64 then some L else none) = some L
  rw [hlen]; rfl
 exact Wp.bnd rfl (Wp.bnd l3 (Wp.bnd rfl (Wp.bnd s3 (Wp.bnd rfl (Wp.bnd l4 (Wp.bnd hd (Wp.of ⟨rfl, k3.set (Nat.le_refl _)⟩)))))))
end Ge.B
namespace Ge.B
open Go Gx Go.Proofs
structure HS (h : AHeap) (hb : Nat) (s : St) (r : Slc) (long : Int) : Prop where
 blk : h.get hb = some (.cells (hcells (wl s) r long) 150 true 0)
 lt : hb < h.next
theorem HS.chg {S : Nat → Prop} {h h' : AHeap} {hb : Nat} {s : St} {r : Slc} {long : Int} (H : HS h hb s r long) (c : Chg S h h') (hs : ¬ S hb) : HS h' hb s r long := ⟨(c.oth hb H.lt hs).trans H.blk, Nat.lt_of_lt_of_le H.lt c.nx⟩
theorem HS.keeps {h h' : AHeap} {hb : Nat} {s : St} {r : Slc} {long : Int} (H : HS h hb s r long) (c : Keeps h h') : HS h' hb s r long := H.chg c fun f => f
theorem tk_l1 (K : Nat) (D : CallF) (j) (bot) {Q : Unit × AHeap → Prop} {h0 : AHeap} (kg : KG 0 h0) {wb : Nat} {m : Nat → UInt32} (hw : h0.get wb = some (.cells ((List.range 64).map fun i => encU (m i)) 174 true 0)) (hv : Option Addr) (s : St)
  (hj : ∀ t : St, t = rounds kAt m 64 s → Wp (j hv (t.a.toNat : Int) (t.b.toNat : Int) (t.c.toNat : Int) (t.d.toNat : Int) (t.e.toNat : Int) (t.f.toNat : Int) (t.g.toNat : Int) (t.h.toNat : Int) h0) Q) :
  ∀ (d i : Nat) (t : St), i + d = 64 → t = rounds kAt m i s →
   Wp (iterK bot (d + 1) (sha_Hash_take_l1b K D j) hv (some ⟨wb, 0, none⟩) (t.a.toNat : Int) (t.b.toNat : Int) (t.c.toNat : Int) (t.d.toNat : Int) (t.e.toNat : Int) (t.f.toNat : Int) (t.g.toNat : Int) (t.h.toNat : Int) (i : Int) h0) Q
 | 0, i, t, hi, ht => by
  obtain rfl : i = 64 := by omega
  rw [iterK_s]; simp only [sha_Hash_take_l1b]
  exact Wp.ifn (by simp) (hj t ht)
 | d + 1, i, t, hi, ht => by
  rw [iterK_s]; simp only [sha_Hash_take_l1b]
  refine Wp.ifp (by simp; omega) ?_
  refine Wp.bnd (rot_spec K D _ h0 6 (by decide) (by decide)) (Wp.bnd (rot_spec K D _ h0 11 (by decide) (by decide)) (Wp.bnd (rot_spec K D _ h0 25 (by decide) (by decide)) ?_))
  have lw : ldI .u32 ⟨wb, i, none⟩ h0 = some ((m i).toNat : Int) := sldI_at hw (by rw [List.getElem?_map, List.getElem?_range (by omega)]; rfl)
  refine Wp.bnd (sidxA (by omega)) (Wp.bnd (kg.ld (by omega)) (Wp.bnd rfl (Wp.bnd (sidxA (by omega)) (Wp.bnd lw ?_))))
  refine Wp.bnd (rot_spec K D _ h0 2 (by decide) (by decide)) (Wp.bnd (rot_spec K D _ h0 13 (by decide) (by decide)) (Wp.bnd (rot_spec K D _ h0 22 (by decide) (by decide)) ?_))
  simp only [xorU, andU, notU, addU]
  rw [Gx.w1 (by omega)]
  exact tk_l1 K D j bot kg hw hv s hj d (i + 1) (rnd (kAt i) (m i) t) (by omega) (by rw [ht]; rfl)
theorem tk_l0 (K : Nat) (D : CallF) (bot) {h0 : AHeap} {hb : Nat} {s t : St} {r : Slc} {long : Int} (hlt : hb < h0.next) :
  ∀ (d i : Nat) (h : AHeap) (l : List UInt32), i + d = 8 → l.length = 8 → (∀ j x y, j < i → (wl s)[j]? = some x → (wl t)[j]? = some y → l[j]? = some (x + y)) → (∀ j, i ≤ j → l[j]? = (wl s)[j]?) → h.get hb = some (.cells (hcells l r long) 150 true 0) → Chg (fun x => x = hb) h0 h →
   Wp (iterK bot (d + 1) (sha_Hash_take_l0b K D) (some ⟨hb, 0, none⟩) ((t.a.toNat : Int), (t.b.toNat : Int), (t.c.toNat : Int), (t.d.toNat : Int), (t.e.toNat : Int), (t.f.toNat : Int), (t.g.toNat : Int), (t.h.toNat : Int)) (i : Int) h) fun q => HS q.2 hb (addSt s t) r long ∧ Chg (fun x => x = hb) h0 q.2
 | 0, i, h, l, hi, hl, l1, l2, hg, c => by
  obtain rfl : i = 8 := by omega
  rw [iterK_s]; simp only [sha_Hash_take_l0b]
  refine Wp.ifn (by simp) (Wp.of ⟨⟨?_, Nat.lt_of_lt_of_le hlt c.nx⟩, c⟩)
  have e : l = wl (addSt s t) := by
   apply List.ext_getElem?
   intro j
   by_cases hj : j < 8
   ·obtain ⟨x, hx⟩ := isome (l := wl s) (i := j) hj
    obtain ⟨y, hy⟩ := isome (l := wl t) (i := j) hj
    rw [l1 j x y hj hx hy]
    match j, hj with
    | 0, _ => cases hx; cases hy; rfl
    | 1, _ => cases hx; cases hy; rfl
    | 2, _ => cases hx; cases hy; rfl
    | 3, _ => cases hx; cases hy; rfl
    | 4, _ => cases hx; cases hy; rfl
    | 5, _ => cases hx; cases hy; rfl
    | 6, _ => cases hx; cases hy; rfl
    | 7, _ => cases hx; cases hy; rfl
    | n + 8, h => omega
   ·rw [List.getElem?_eq_none (by omega), List.getElem?_eq_none (by rw [wl_length]; omega)]
  rw [e] at hg
  exact hg
 | d + 1, i, h, l, hi, hl, l1, l2, hg, c => by
  rw [iterK_s]; simp only [sha_Hash_take_l0b]
  refine Wp.ifp (by simp; omega) ?_
  refine Wp.ifp (by omega) ?_
  obtain ⟨x, hx⟩ := isome (l := wl s) (i := i) (by rw [wl_length]; omega)
  obtain ⟨y, hy⟩ := isome (l := wl t) (i := i) (by rw [wl_length]; omega)
  have hly : ((wl t).map encU)[((i : Int)).toNat * 1]? = some (.int .u32 (y.toNat : Int)) := by
   rw [Int.toNat_natCast, Nat.mul_one, List.getElem?_map, hy]; rfl
  refine Wp.bnd hly (Wp.bnd rfl (Wp.bnd rfl ?_))
  have hlx : l[i]? = some x := by rw [l2 i (Nat.le_refl _), hx]
  refine Wp.bnd (sidxA (by omega)) (Wp.bnd (sldI_at hg (hcells_word hlx)) (Wp.bnd rfl (Wp.bnd (sidxA (by omega)) ?_)))
  rw [addU]
  have hst : st1 ⟨hb, i, none⟩ (.int .u32 ((x + y).toNat : Int)) h = some (h.set hb (.cells (hcells (l.set i (x + y)) r long) 150 true 0)) := by
   rw [st1_of hg (by rw [hcells_length hl]; omega) rfl, hcells_set _ (by omega)]
  refine Wp.bnd hst ?_
  rw [Gx.w1 (by omega)]
  refine tk_l0 K D bot hlt d (i + 1) _ (l.set i (x + y)) (by omega) (by simpa using hl) (fun j x' y' hj hx' hy' => ?_) (fun j hj => ?_) (sset_get _ _ _) (c.trans (Chg.set (.inr rfl)))
  ·by_cases e : j = i
   ·subst e
    rw [hx] at hx'; rw [hy] at hy'
    cases hx'; cases hy'
    rw [List.getElem?_set_self (by omega)]
   ·rw [List.getElem?_set_ne (fun q => e q.symm)]
    exact l1 j x' y' (by omega) hx' hy'
  ·rw [List.getElem?_set_ne (by omega)]
   exact l2 j (by omega)
theorem take_spec {k0 : Nat} (hk : 100 ≤ k0) (D : CallF) {h : AHeap} {hb : Nat} {s : St} {r : Slc} {long : Int} (H : HS h hb s r long) (kg : KG 0 h) {b : Slc} {blk : List UInt8} (R : Row encB h b blk) (hl : blk.length = 64) :
  Wp (sha_Hash_take k0 D (some ⟨hb, 0, none⟩) b h) fun q => HS q.2 hb (comp s blk) r long ∧ Chg (fun x => x = hb) h q.2 := by
 simp only [sha_Hash_take]
 refine Wp.call (spread_spec hk D R hl) fun a ⟨ha, ka⟩ => ?_
 obtain ⟨L, h1⟩ := a
 simp only at ha ka ⊢
 subst ha
 let h2 := h1.new (.cells (List.replicate 64 (.int .u32 0)) 174 true 0)
 have g2 : h2.get h1.next = some (.cells (List.replicate 64 (.int .u32 0)) 174 true 0) := by simp [h2]
 have s3 := sstL_at (sp := none) g2 (by simp) (show ((List.range 64).map fun i => encU (sched (wAt blk) i)).length = 64 by simp) (allOne_U _ _) (by decide)
 refine Wp.bnd s3 ?_
 obtain ⟨h3, e3⟩ : ∃ h3, h3 = h2.set h1.next (.cells ((List.range 64).map fun i => encU (sched (wAt blk) i)) 174 true 0) := ⟨_, rfl⟩
 rw [← e3]
 have k3 : Keeps h h3 := by
  rw [e3]
  exact Keeps.set (ka.trans (Keeps.new h1 _)) ka.nx
 have g3 : h3.get h1.next = some (.cells ((List.range 64).map fun i => encU (sched (wAt blk) i)) 174 true 0) := by rw [e3]; exact sset_get _ _ _
 have H3 := H.keeps k3
 have ld : ∀ {i : Nat} {x : UInt32}, (wl s)[i]? = some x → ldI .u32 ⟨hb, i, none⟩ h3 = some (x.toNat : Int) := fun hx => sldI_at H3.blk (hcells_word hx)
 refine Wp.bnd rfl (Wp.bnd (ld (i := 0) rfl) (Wp.bnd rfl (Wp.bnd (ld (i := 1) rfl) (Wp.bnd rfl (Wp.bnd (ld (i := 2) rfl) (Wp.bnd rfl (Wp.bnd (ld (i := 3) rfl) (Wp.bnd rfl (Wp.bnd (ld (i := 4) rfl) (Wp.bnd rfl (Wp.bnd (ld (i := 5) rfl) (Wp.bnd rfl (Wp.bnd (ld (i := 6) rfl) (Wp.bnd rfl (Wp.bnd (ld (i := 7) rfl) ?_)))))))))))))))
 refine Wp.jn fun j1 hj1 => ?_
 unfold sha_Hash_take_l1
 obtain ⟨bot1, e1⟩ := iterK_of (fun _ _ _ _ _ _ _ _ _ _ _ _ => none) (sha_Hash_take_l1b k0 D j1) (show 64 + 1 ≤ k0 by omega)
 rw [e1]
 refine tk_l1 k0 D j1 bot1 (kg.chg k3 fun f => f) g3 (some ⟨hb, 0, none⟩) s ?_ 64 0 s (by omega) rfl
 intro t ht
 subst hj1
 dsimp only
 unfold sha_Hash_take_l0
 obtain ⟨bot2, e2⟩ := iterK_of (fun _ _ _ _ => none) (sha_Hash_take_l0b k0 D) (show 8 + 1 ≤ k0 by omega)
 rw [e2]
 refine (tk_l0 k0 D bot2 (h0 := h3) (s := s) (t := t) (r := r) (long := long) H3.lt 8 0 h3 (wl s) (by omega) rfl (fun j x y hj => by omega) (fun j _ => rfl) H3.blk (Chg.refl _ _)).mono ?_
 rintro q ⟨q1, q2⟩
 refine ⟨?_, (k3.keeps).trans q2⟩
 unfold comp
 rw [← ht]; exact q1
end Ge.B
namespace Ge.B
open Go Gx Go.Proofs
structure Hash (n0 : Nat) (h : AHeap) (hb : Nat) (s : St) (rest : List UInt8) (long : Nat) : Prop where
 ok : ∃ r, HS h hb s r (long : Int) ∧ Acc encB 5 n0 h r rest ∧ ∀ a, r.a = some a → a.block ≠ hb
 le : n0 ≤ hb
theorem Hash.keeps {n0 : Nat} {h h' : AHeap} {hb : Nat} {s : St} {rest : List UInt8} {long : Nat} (H : Hash n0 h hb s rest long) (c : Keeps h h') : Hash n0 h' hb s rest long := by
 obtain ⟨r, h1, h2, h3⟩ := H.ok
 exact ⟨⟨r, h1.keeps c, h2.keeps c, h3⟩, H.le⟩
theorem Hash.lt {n0 : Nat} {h : AHeap} {hb : Nat} {s : St} {rest : List UInt8} {long : Nat} (H : Hash n0 h hb s rest long) : hb < h.next := by
 obtain ⟨r, h1, _⟩ := H.ok
 exact h1.lt
theorem hcells_rest {l : List UInt32} {r : Slc} {long : Int} (h : l.length = 8) : (hcells l r long)[8]? = some (.slice r.a r.len r.cap) := by
 unfold hcells
 rw [List.getElem?_append_right (by simp [h]), List.length_map, h]; rfl
theorem hcells_long {l : List UInt32} {r : Slc} {long : Int} (h : l.length = 8) : (hcells l r long)[9]? = some (.int .i64 long) := by
 unfold hcells
 rw [List.getElem?_append_right (by simp [h]), List.length_map, h]; rfl
theorem hcells_setR {l : List UInt32} {r r' : Slc} {long : Int} (h : l.length = 8) : (hcells l r long).set 8 (.slice r'.a r'.len r'.cap) = hcells l r' long := by
 unfold hcells
 rw [List.set_append_right _ _ (by simp [h]), List.length_map, h]; rfl
theorem hcells_setL {l : List UInt32} {r : Slc} {long long' : Int} (h : l.length = 8) : (hcells l r long).set 9 (.int .i64 long') = hcells l r long' := by
 unfold hcells
 rw [List.set_append_right _ _ (by simp [h]), List.length_map, h]; rfl
theorem HS.setR {h : AHeap} {hb : Nat} {s : St} {r : Slc} {long : Int} (H : HS h hb s r long) (r' : Slc) : st1 ⟨hb, 8, none⟩ (.slice r'.a r'.len r'.cap) h = some (h.set hb (.cells (hcells (wl s) r' long) 150 true 0)) ∧ HS (h.set hb (.cells (hcells (wl s) r' long) 150 true 0)) hb s r' long := by
 refine ⟨?_, sset_get _ _ _, by simpa using H.lt⟩
 rw [st1_of H.blk (by rw [hcells_length (wl_length s)]; decide) rfl, hcells_setR (wl_length s)]
theorem HS.setL {h : AHeap} {hb : Nat} {s : St} {r : Slc} {long : Int} (H : HS h hb s r long) (long' : Int) : st1 ⟨hb, 9, none⟩ (.int .i64 long') h = some (h.set hb (.cells (hcells (wl s) r long') 150 true 0)) ∧ HS (h.set hb (.cells (hcells (wl s) r long') 150 true 0)) hb s r long' := by
 refine ⟨?_, sset_get _ _ _, by simpa using H.lt⟩
 rw [st1_of H.blk (by rw [hcells_length (wl_length s)]; decide) rfl, hcells_setL (wl_length s)]
theorem acc_sub {n0 : Nat} {h : AHeap} {r : Slc} {l : List UInt8} (A : Acc encB 5 n0 h r l) {i j : Nat} (hij : i ≤ j) (hj : j ≤ l.length) (hi : Option Int) (hhi : hi = some (j : Int) ∨ (hi = none ∧ j = l.length)) :
  ∃ t, Gx.subL 1 r (some (i : Int)) hi none = some t ∧ Row encB h t ((l.take j).drop i) ∧ t.len = j - i := by
 have hlen := A.row.1
 rcases A.st with ⟨rfl, rfl⟩ | ⟨b, g⟩
 ·simp at hj
  subst hj
  obtain rfl : i = 0 := by omega
  refine ⟨⟨none, 0, 0⟩, ?_, Row.nil _ _ _ _, rfl⟩
  rcases hhi with rfl | ⟨rfl, _⟩ <;> rfl
 ·have hg := g.s
  subst hg
  have hb := A.lt ⟨b, 0, some 2⟩ rfl
  have hhv : hi.getD ((l.length : Nat) : Int) = (j : Int) := by
   rcases hhi with rfl | ⟨rfl, e⟩
   ·rfl
   ·rw [e]; rfl
  refine ⟨⟨some ⟨b, if (l.length : Int) = (i : Int) then 0 else i, some 2⟩, j - i, l.length - i⟩, ?_, ⟨?_, fun k x hx => ?_⟩, rfl⟩
  ·simp only [Gx.subL, Option.getD_none, Option.getD_some, hhv]
   rw [if_pos (by omega), if_pos (by rfl)]
   rw [show ((j : Int) - (i : Int)).toNat = j - i by omega, show ((l.length : Int) - (i : Int)).toNat = l.length - i by omega]
   simp
  ·rw [List.length_drop, List.length_take]; show j - i = min j l.length - i; omega
  ·rw [List.getElem?_drop, List.getElem?_take] at hx
   split at hx
   ·have hlt := (List.getElem?_eq_some_iff.1 hx).1
    refine ⟨_, _, _, _, _, rfl, hb.1, g.blk, ?_⟩
    simp only
    rw [if_neg (by omega), List.getElem?_map, hx]; rfl
   ·cases hx
theorem wr_l0 {k0 : Nat} (hk : 100 ≤ k0) (D : CallF) (j) (bot) {Q : Unit × AHeap → Prop} {n0 hb : Nat} (hn : 0 < n0) (hle : n0 ≤ hb) {long : Int} {r : Slc} {l : List UInt8} (hl : l.length ≤ 140737488355328) (hr : ∀ a, r.a = some a → a.block ≠ hb) {s0 : St}
  {h0 : AHeap} (hj : ∀ h i, Chg (fun x => n0 ≤ x) h0 h → KG 0 h → HS h hb (absorb s0 l) r long → Acc encB 5 n0 h r l → i = 64 * (l.length / 64) → Wp (j (some ⟨hb, 0, none⟩) (i : Int) h) Q) :
  ∀ (d : Nat) (i : Nat) (s : St) (h : AHeap), l.length - i < 64 * (d + 1) → i ≤ l.length → i % 64 = 0 → absorb s (l.drop i) = absorb s0 l → Chg (fun x => n0 ≤ x) h0 h → KG 0 h → HS h hb s r long → Acc encB 5 n0 h r l →
   Wp (iterK bot (d + 1) (sha_Hash_Write_l0b k0 D j) (some ⟨hb, 0, none⟩) (i : Int) h) Q
 | d, i, s, h, hd, hi, h6, ha, c, kg, H, A => by
  rw [iterK_s]; simp only [sha_Hash_Write_l0b]
  refine Wp.bnd rfl (Wp.bnd (sldL_at H.blk (hcells_rest (wl_length s))) ?_)
  have hlen : r.len = l.length := A.row.1
  simp only
  rw [hlen, w64 _ (by omega)]
  by_cases c1 : 64 ≤ l.length - i
  ·refine Wp.ifp (by simp; omega) ?_
   obtain ⟨d', rfl⟩ : ∃ d', d = d' + 1 := ⟨d - 1, by omega⟩
   refine Wp.bnd rfl (Wp.bnd (sldL_at H.blk (hcells_rest (wl_length s))) ?_)
   have e64 : IntKind.wrap .i64 ((i : Int) + 64) = ((i + 64 : Nat) : Int) := sw64 (by omega) (by omega)
   rw [e64]
   obtain ⟨t, e1, R, tl⟩ := acc_sub A (i := i) (j := i + 64) (by omega) (by omega) (some ((i + 64 : Nat) : Int)) (.inl rfl)
   have e1' : Gx.subL 1 ⟨r.a, l.length, r.cap⟩ (some (i : Int)) (some ((i + 64 : Nat) : Int)) none = some t := by
    rw [← hlen]; exact e1
   refine Wp.bnd e1' ?_
   have hblk : ((l.take (i + 64)).drop i).length = 64 := by rw [List.length_drop, List.length_take]; omega
   refine Wp.call (take_spec hk D H kg R hblk) fun q ⟨q1, q2⟩ => ?_
   have q2' : Chg (fun x => n0 ≤ x) h q.2 := q2.wk fun x _ e => by have e : x = hb := e; show n0 ≤ x; omega
   refine wr_l0 hk D j bot hn hle hl hr hj d' (i + 64) _ q.2 (by omega) (by omega) (by omega) ?_ (c.trans q2') (kg.chg q2 (by omega)) q1 (A.chg q2 fun a ha e => hr a ha e)
   rw [← ha, absorb_ge (l := l.drop i) (by rw [List.length_drop]; exact c1), List.drop_drop]
   congr 2
   rw [List.drop_take, show i + 64 - i = 64 by omega]
  ·refine Wp.ifn (by simp; omega) ?_
   have hd2 : absorb s (l.drop i) = s := absorb_lt (by rw [List.length_drop]; omega)
   rw [hd2] at ha
   subst ha
   exact hj h i c kg H A (by omega)
theorem write_spec {k0 : Nat} (hk : 100 ≤ k0) (D : CallF) {n0 : Nat} {h : AHeap} {hb : Nat} {s : St} {rest : List UInt8} {long : Nat} (H : Hash n0 h hb s rest long) (kg : KG 0 h) (hn : 0 < n0) (t : ByteArray) (hlong : long + t.size ≤ 140737488351500) (hrest : rest.length ≤ 3800) (hkt : rest.length + t.size < 64 * k0) :
  Wp (sha_Hash_Write k0 D (some ⟨hb, 0, none⟩) t h) fun q => Hash n0 q.2 hb (absorb s (rest ++ bl t)) (restOf (rest ++ bl t)) (long + t.size) ∧ Chg (fun x => n0 ≤ x) h q.2 := by
 obtain ⟨⟨r, HS0, A0, hr⟩, hle⟩ := H
 simp only [sha_Hash_Write]
 have e1 : IntKind.wrap .i64 ((long : Int) + (t.size : Int)) = ((long + t.size : Nat) : Int) := sw64 (by omega) (by omega)
 obtain ⟨s1, H1⟩ := HS0.setL ((long + t.size : Nat) : Int)
 refine Wp.bnd rfl (Wp.bnd (sldI_at HS0.blk (hcells_long (wl_length s))) (Wp.bnd rfl (Wp.bnd (by rw [e1]; exact s1) ?_)))
 obtain ⟨h1, eh1⟩ : ∃ h1, h1 = h.set hb (.cells (hcells (wl s) r ((long + t.size : Nat) : Int)) 150 true 0) := ⟨_, rfl⟩
 rw [← eh1] at H1 ⊢
 have c1 : Chg (fun x => x = hb) h h1 := by rw [eh1]; exact Chg.set (.inr rfl)
 have A1 := A0.chg c1 fun a ha e => hr a ha e
 have n1 : n0 ≤ h1.next := Nat.le_trans hle (Nat.le_of_lt H1.lt)
 obtain ⟨r2, h2, e2, A2, c2, f2⟩ := A1.app (bytes := 1) (fun _ => rfl) (bl t) (by rw [bl_length]; omega) (by omega) n1
 rw [bl_length] at e2
 refine Wp.bnd rfl (Wp.bnd (sldL_at H1.blk (hcells_rest (wl_length s))) ?_)
 rw [bytesL_bl]
 refine Wp.bnd e2 ?_
 have H2 : HS h2 hb s r ((long + t.size : Nat) : Int) := H1.chg c2 fun ⟨a, ha, e⟩ => hr a ha e.symm
 have hr2 : ∀ a, r2.a = some a → a.block ≠ hb := fun a ha e => by
  rcases f2 a ha with f | f
  ·have := H1.lt; omega
  ·exact hr a f e
 obtain ⟨s3, H3⟩ := H2.setR r2
 refine Wp.bnd rfl (Wp.bnd s3 ?_)
 obtain ⟨h3, eh3⟩ : ∃ h3, h3 = h2.set hb (.cells (hcells (wl s) r2 ((long + t.size : Nat) : Int)) 150 true 0) := ⟨_, rfl⟩
 rw [← eh3] at H3 ⊢
 have c3 : Chg (fun x => x = hb) h2 h3 := by rw [eh3]; exact Chg.set (.inr rfl)
 have A3 := A2.chg c3 fun a ha e => hr2 a ha e
 have w1' : Chg (fun x => n0 ≤ x) h h1 := c1.wk fun x _ e => by have e : x = hb := e; show n0 ≤ x; omega
 have w2 : Chg (fun x => n0 ≤ x) h1 h2 := c2.wk fun x _ ⟨a, ha, e⟩ => by have := (A1.lt a ha).2; show n0 ≤ x; omega
 have w3 : Chg (fun x => n0 ≤ x) h2 h3 := c3.wk fun x _ e => by have e : x = hb := e; show n0 ≤ x; omega
 have W3 := w1'.trans (w2.trans w3)
 refine Wp.jn fun j1 hj1 => ?_
 unfold sha_Hash_Write_l0
 obtain ⟨d, hd⟩ : ∃ d, d = (rest ++ bl t).length / 64 := ⟨_, rfl⟩
 have hll : (rest ++ bl t).length = rest.length + t.size := by rw [List.length_append, bl_length]
 obtain ⟨bot1, eb⟩ := iterK_of (fun _ _ _ => none) (sha_Hash_Write_l0b k0 D j1) (show d + 1 ≤ k0 by omega)
 rw [eb]
 refine wr_l0 hk D j1 bot1 hn hle (s0 := s) (h0 := h3) (l := rest ++ bl t) (by omega) hr2 ?_ d 0 s h3 (by omega) (by omega) rfl rfl (Chg.refl _ _) (kg.chg W3 (by omega)) H3 A3
 intro h4 i c4 kg4 H4 A4 hi
 subst hj1
 obtain ⟨u, u1, u2, u3⟩ := acc_sub A4 (i := i) (j := (rest ++ bl t).length) (by omega) (Nat.le_refl _) none (.inr ⟨rfl, rfl⟩)
 have hlen : r2.len = (rest ++ bl t).length := A4.row.1
 refine Wp.bnd rfl (Wp.bnd (sldL_at H4.blk (hcells_rest (wl_length _))) (Wp.bnd u1 (Wp.bnd u2.rdS ?_)))
 have n4 : n0 ≤ h4.next := Nat.le_trans hle (Nat.le_of_lt H4.lt)
 have er : ((rest ++ bl t).take (rest ++ bl t).length).drop i = restOf (rest ++ bl t) := by rw [List.take_length, hi]; rfl
 rw [er]
 obtain ⟨r5, h5, e5, A5, c5, f5⟩ := (Acc.nil encB 5 n0 h4).app (bytes := 1) (fun _ => rfl) (restOf (rest ++ bl t)) (by rw [restOf_length]; simp; omega) (by omega) n4
 have ul : u.len = (restOf (rest ++ bl t)).length := by rw [u3, ← er, List.length_drop, List.take_length]
 rw [← ul] at e5
 refine Wp.bnd e5 ?_
 have k5 : Keeps h4 h5 := c5.wk fun x _ ⟨a, ha, _⟩ => by cases ha
 have H5 := H4.keeps k5
 obtain ⟨s6, H6⟩ := H5.setR r5
 have hr5 : ∀ a, r5.a = some a → a.block ≠ hb := fun a ha e => by
  rcases f5 a ha with f | f
  ·have := H4.lt; omega
  ·cases f
 refine Wp.bnd rfl (Wp.bnd s6 (Wp.of ⟨⟨⟨r5, H6, ?_, hr5⟩, hle⟩, ?_⟩))
 ·exact (A5.chg (Chg.set (S := fun x => x = hb) (.inr rfl)) fun a ha e => hr5 a ha e)
 ·refine W3.trans (c4.trans ((k5.keeps).trans (Chg.set (.inr hle))))
end Ge.B
namespace Ge.B
open Go Gx Go.Proofs
theorem hnew_spec (k0 : Nat) (D : CallF) (h : AHeap) : ∃ h' hb, sha_New k0 D h = some (some ⟨hb, 0, none⟩, h') ∧ Keeps h h' ∧ h.next ≤ hb ∧ Hash h.next h' hb st0 [] 0 := by
 have first : sha_first k0 D h = some (((st0.a.toNat : Int), (st0.b.toNat : Int), (st0.c.toNat : Int), (st0.d.toNat : Int), (st0.e.toNat : Int), (st0.f.toNat : Int), (st0.g.toNat : Int), (st0.h.toNat : Int)), (h.new (.cells [.int .u32 0, .int .u32 0, .int .u32 0, .int .u32 0, .int .u32 0, .int .u32 0, .int .u32 0, .int .u32 0] 147 true 0)).set h.next (.cells ((wl st0).map encU) 147 true 0)) := by
  simp only [sha_first]
  have g1 : (h.new (.cells [.int .u32 0, .int .u32 0, .int .u32 0, .int .u32 0, .int .u32 0, .int .u32 0, .int .u32 0, .int .u32 0] 147 true 0)).get h.next = some (.cells [.int .u32 0, .int .u32 0, .int .u32 0, .int .u32 0, .int .u32 0, .int .u32 0, .int .u32 0, .int .u32 0] 147 true 0) := by simp
  have s1 := sstL_at (sp := none) g1 rfl (show ((wl st0).map encU).length = 8 from rfl) rfl (by decide)
  refine bnd s1 (bnd (sldA_at (sset_get _ _ _) rfl) (bnd rfl rfl))
 simp only [sha_New]
 let h1 := (h.new (.cells [.int .u32 0, .int .u32 0, .int .u32 0, .int .u32 0, .int .u32 0, .int .u32 0, .int .u32 0, .int .u32 0] 147 true 0)).set h.next (.cells ((wl st0).map encU) 147 true 0)
 have k1 : Keeps h h1 := Keeps.set (Keeps.new h _) (Nat.le_refl _)
 have n1 : h1.next = h.next + 1 := by simp [h1]
 refine ⟨h1.new (.cells (hcells (wl st0) ⟨none, 0, 0⟩ 0) 150 true 0), h1.next, bnd first rfl, k1.trans (Keeps.new _ _), by omega, ⟨⟨⟨none, 0, 0⟩, ⟨by simp, by simp⟩, Acc.nil _ _ _ _, fun a ha => by cases ha⟩, by omega⟩⟩
theorem fork_spec (k0 : Nat) (D : CallF) {n0 : Nat} {h : AHeap} {hb : Nat} {s : St} {rest : List UInt8} {long : Nat} (H : Hash n0 h hb s rest long) (hr : rest.length ≤ 140737488355000) :
  ∃ h' eb, sha_Hash_Fork k0 D (some ⟨hb, 0, none⟩) h = some (some ⟨eb, 0, none⟩, h') ∧ Keeps h h' ∧ Hash h.next h' eb s rest long ∧ Hash n0 h' hb s rest long := by
 have H0 := H
 obtain ⟨⟨r, HS0, A0, hne⟩, hle⟩ := H
 simp only [sha_Hash_Fork]
 obtain ⟨r3, h3, e3, A3, c3, f3⟩ := (Acc.nil encB 5 h.next h).app (bytes := 1) (fun _ => rfl) rest (by simp; omega) (by omega) (Nat.le_refl _)
 have hlen : r.len = rest.length := A0.row.1
 rw [← hlen] at e3
 have k3 : Keeps h h3 := c3.wk fun x _ ⟨a, ha, _⟩ => by cases ha
 have H3 := HS0.keeps k3
 have tk : (hcells (wl s) r (long : Int)).take 8 = (wl s).map encU := rfl
 have ldw : ∀ {g : AHeap}, HS g hb s r (long : Int) → ldA 8 ⟨hb, 0, none⟩ g = some ((wl s).map encU) := fun {g} Hg => by
  have := sldA_take (sp := none) Hg.blk (show 0 < 8 by decide) (by rw [hcells_length (wl_length s)]; decide)
  rw [tk] at this; exact this
 have ldl : ∀ {g : AHeap}, HS g hb s r (long : Int) → ldI .i64 ⟨hb, 9, none⟩ g = some (long : Int) := fun {g} Hg => sldI_at Hg.blk (hcells_long (wl_length s))
 refine ⟨h3.new (.cells (hcells (wl s) r3 (long : Int)) 150 true 0), h3.next, ?_, k3.trans (Keeps.new _ _), ⟨⟨r3, ⟨by simp, by simp⟩, A3.keeps (Keeps.new _ _), fun a ha => ?_⟩, k3.nx⟩, H0.keeps (k3.trans (Keeps.new _ _))⟩
 ·refine bnd rfl (bnd (sldL_at HS0.blk (hcells_rest (wl_length s))) (bnd A0.row.rdS (bnd e3 (bnd rfl (bnd (ldw H3) ?_)))))
  refine gp (ssw1 ?_) (bnd rfl (bnd rfl (bnd (ldl H3) (gp (ssw1 ?_) rfl))))
  ·show (ldA 8 ⟨hb, 0, none⟩ h).bind _ = _
   rw [ldw HS0]; rfl
  ·show (ldI .i64 ⟨hb, 9, none⟩ h).bind _ = _
   rw [ldl HS0]; rfl
 ·have := (A3.lt a ha).1
  omega
theorem sm_l2 {k0 : Nat} (D : CallF) (j) (bot) {Q : ByteArray × AHeap → Prop} {n0 eb hb : Nat} {s : St} {rest : List UInt8} {long : Nat} (hrl : rest.length < 64) {h0 : AHeap}
  (hj : ∀ h t, Keeps h0 h → Lst encB 5 h0.next h t (128 :: List.replicate (zeroN rest.length) 0) → Wp (j (some ⟨hb, 0, none⟩) (some ⟨eb, 0, none⟩) t h) Q) (H : Hash n0 h0 eb s rest long) :
  ∀ (d i : Nat) (t : Slc) (h : AHeap), i + d = zeroN rest.length → Keeps h0 h → Lst encB 5 h0.next h t (128 :: List.replicate i 0) →
   Wp (iterK bot (d + 1) (sha_Hash_Sum_l2b k0 D j) (some ⟨hb, 0, none⟩) (some ⟨eb, 0, none⟩) t h) Q := fun d => by
 induction d with
 | zero =>
  intro i t h hi kp L
  rw [iterK_s]; simp only [sha_Hash_Sum_l2b]
  obtain ⟨r, H1, A1, _⟩ := (H.keeps kp).ok
  refine Wp.bnd rfl (Wp.bnd (sldL_at H1.blk (hcells_rest (wl_length s))) ?_)
  have hl : r.len = rest.length := A1.row.1
  have tl := L.len
  rw [List.length_cons, List.length_replicate] at tl
  have e : Int.tmod (IntKind.wrap .i64 ((r.len : Int) + (t.len : Int))) 64 = 56 := by
   rw [hl, tl, w64 _ (by unfold zeroN at hi; omega), Int.tmod_eq_emod_of_nonneg (by omega)]
   unfold zeroN at hi; omega
  rw [e]
  refine Wp.ifn (by simp) ?_
  have : i = zeroN rest.length := by omega
  subst this
  exact hj h t kp L
 | succ d ih =>
  intro i t h hi kp L
  rw [iterK_s]; simp only [sha_Hash_Sum_l2b]
  obtain ⟨r, H1, A1, _⟩ := (H.keeps kp).ok
  refine Wp.bnd rfl (Wp.bnd (sldL_at H1.blk (hcells_rest (wl_length s))) ?_)
  have hl : r.len = rest.length := A1.row.1
  have tl := L.len
  rw [List.length_cons, List.length_replicate] at tl
  have e : Int.tmod (IntKind.wrap .i64 ((r.len : Int) + (t.len : Int))) 64 ≠ 56 := by
   rw [hl, tl, w64 _ (by unfold zeroN at hi; omega), Int.tmod_eq_emod_of_nonneg (by omega)]
   unfold zeroN at hi; omega
  refine Wp.ifp (by simpa using e) ?_
  refine Wp.bnd rdS_one ?_
  have k1 : Keeps h (h.new (.cells [.int .u8 0] 5 true 0)) := Keeps.new h _
  obtain ⟨t', h', e1, L', c1⟩ := (L.chg k1 fun _ _ f => f).app (bytes := 1) (fun _ => rfl) [0] (by simp) (by simp; unfold zeroN at hi; omega) (by omega) (Nat.le_trans kp.nx k1.nx)
  refine Wp.bnd e1 ?_
  refine ih (i + 1) t' h' (by omega) ?_ ?_
  ·exact Chg.beh (kp.trans k1) c1 fun x hx e => by have e : h0.next ≤ x := e; omega
  ·rw [List.replicate_succ']; simpa using L'
theorem be64_length (n : Nat) : (be64 n).length = 8 := rfl
theorem be64_get (n : Nat) : ∀ j, j < 8 → (be64 n)[j]? = some (b8 (n / 2 ^ (56 - 8 * j)))
 | 0, _ => rfl
 | 1, _ => rfl
 | 2, _ => rfl
 | 3, _ => rfl
 | 4, _ => rfl
 | 5, _ => rfl
 | 6, _ => rfl
 | 7, _ => by show some (b8 n) = some (b8 (n / 2 ^ 0)); rw [Nat.pow_zero, Nat.div_one]
 | n + 8, h => by omega
theorem b8_int (n : Nat) : IntKind.wrap .u8 (n : Int) = ((b8 n).toNat : Int) := by
 rw [Go.IntKind.wrap_u8]
 unfold b8
 rw [UInt8.toNat_ofNat']
 omega
theorem sm_l1 {k0 : Nat} (D : CallF) (j) (bot) {Q : ByteArray × AHeap → Prop} {e : Option Addr} {base : List UInt8} (hbl : base.length ≤ 1000) (c : Nat) {h0 : AHeap}
  (hj : ∀ h t, Keeps h0 h → Lst encB 5 h0.next h t (base ++ be64 c) → Wp (j e t h) Q) :
  ∀ (d i : Nat) (t : Slc) (h : AHeap), i + d = 8 → Keeps h0 h → Lst encB 5 h0.next h t (base ++ (be64 c).take i) →
   Wp (iterK bot (d + 1) (sha_Hash_Sum_l1b k0 D j) e t (c : Int) (56 - 8 * (i : Int)) h) Q := fun d => by
 induction d with
 | zero =>
  intro i t h hi kp L
  rw [iterK_s]; simp only [sha_Hash_Sum_l1b]
  obtain rfl : i = 8 := by omega
  have e8 : (be64 c).take 8 = be64 c := rfl
  rw [e8] at L
  exact Wp.ifn (by simp) (hj h t kp L)
 | succ d ih =>
  intro i t h hi kp L
  rw [iterK_s]; simp only [sha_Hash_Sum_l1b]
  refine Wp.ifp (by simp; omega) ?_
  refine Wp.ifp (by omega) ?_
  have es : (56 - 8 * (i : Int)).toNat = 56 - 8 * i := by omega
  have em : min (56 - 8 * i) (IntKind.bits .u64) = 56 - 8 * i := Nat.min_eq_left (by show 56 - 8 * i ≤ 64; omega)
  have ep : (2 : Int) ^ (56 - 8 * i) = ((2 ^ (56 - 8 * i) : Nat) : Int) := by simp
  have ef : Int.fdiv (c : Int) ((2 ^ (56 - 8 * i) : Nat) : Int) = ((c / 2 ^ (56 - 8 * i) : Nat) : Int) := by
   rw [Int.fdiv_eq_ediv_of_nonneg _ (Int.natCast_nonneg _)]; simp
  rw [es, em, ep, ef, b8_int]
  refine Wp.bnd rdS_one ?_
  have k1 : Keeps h (h.new (.cells [.int .u8 ((b8 (c / 2 ^ (56 - 8 * i))).toNat : Int)] 5 true 0)) := Keeps.new h _
  obtain ⟨t', h', e1, L', c1⟩ := (L.chg k1 fun _ _ f => f).app (bytes := 1) (fun _ => rfl) [b8 (c / 2 ^ (56 - 8 * i))] (by simp) (by rw [List.length_append, List.length_take, be64_length]; simp; omega) (by omega) (Nat.le_trans kp.nx k1.nx)
  refine Wp.bnd e1 ?_
  have ew : IntKind.wrap .i64 (56 - 8 * (i : Int) - 8) = 56 - 8 * ((i + 1 : Nat) : Int) := by rw [w64 _ (by omega)]; omega
  rw [ew]
  refine ih (i + 1) t' h' (by omega) ?_ ?_
  ·exact Chg.beh (kp.trans k1) c1 fun x hx e => by have e : h0.next ≤ x := e; omega
  ·rw [List.take_add_one, be64_get c i (by omega)]
   simpa using L'
theorem out_bytes (x : UInt32) : [Value.int .u8 (IntKind.wrap .u8 (Int.fdiv (x.toNat : Int) 16777216)), .int .u8 (IntKind.wrap .u8 (Int.fdiv (x.toNat : Int) 65536)), .int .u8 (IntKind.wrap .u8 (Int.fdiv (x.toNat : Int) 256)), .int .u8 (IntKind.wrap .u8 (x.toNat : Int))] = (out32 x).map encB := by
 have e1 : Int.fdiv (x.toNat : Int) 16777216 = ((x.toNat / 16777216 : Nat) : Int) := by rw [Int.fdiv_eq_ediv_of_nonneg _ (by omega)]; simp
 have e2 : Int.fdiv (x.toNat : Int) 65536 = ((x.toNat / 65536 : Nat) : Int) := by rw [Int.fdiv_eq_ediv_of_nonneg _ (by omega)]; simp
 have e3 : Int.fdiv (x.toNat : Int) 256 = ((x.toNat / 256 : Nat) : Int) := by rw [Int.fdiv_eq_ediv_of_nonneg _ (by omega)]; simp
 rw [e1, e2, e3, b8_int, b8_int, b8_int, b8_int]; rfl
theorem out_flat (s : St) : outSt s = ((wl s).map out32).flatten := by simp [outSt, wl]
theorem sm_l0 {k0 : Nat} (D : CallF) (j) (bot) {Q : ByteArray × AHeap → Prop} (s : St) {h0 : AHeap}
  (hj : ∀ h t, Keeps h0 h → Acc encB 5 h0.next h t (outSt s) → Wp (j t h) Q) :
  ∀ (d i : Nat) (t : Slc) (h : AHeap), i + d = 8 → Keeps h0 h → Acc encB 5 h0.next h t (((wl s).take i).map out32).flatten →
   Wp (iterK bot (d + 1) (sha_Hash_Sum_l0b k0 D j) t ((s.a.toNat : Int), (s.b.toNat : Int), (s.c.toNat : Int), (s.d.toNat : Int), (s.e.toNat : Int), (s.f.toNat : Int), (s.g.toNat : Int), (s.h.toNat : Int)) (i : Int) h) Q := fun d => by
 induction d with
 | zero =>
  intro i t h hi kp A
  rw [iterK_s]; simp only [sha_Hash_Sum_l0b]
  obtain rfl : i = 8 := by omega
  refine Wp.ifn (by simp) (hj h t kp ?_)
  rw [out_flat]; exact A
 | succ d ih =>
  intro i t h hi kp A
  rw [iterK_s]; simp only [sha_Hash_Sum_l0b]
  refine Wp.ifp (by simp; omega) ?_
  refine Wp.ifp (by omega) ?_
  obtain ⟨x, hx⟩ := isome (l := wl s) (i := i) (by rw [wl_length]; omega)
  have hlx : ((wl s).map encU)[((i : Int)).toNat * 1]? = some (.int .u32 (x.toNat : Int)) := by
   rw [Int.toNat_natCast, Nat.mul_one, List.getElem?_map, hx]; rfl
  refine Wp.bnd hlx (Wp.bnd rfl ?_)
  rw [out_bytes]
  have k1 : Keeps h (h.new (.cells ((out32 x).map encB) 5 true 0)) := Keeps.new h _
  have hr := rdL_all (h := h.new (.cells ((out32 x).map encB) 5 true 0)) (b := h.next) (c := (out32 x).map encB) (e := 5) (r := true) (fz := 0) (by simp)
  have hr' : Gx.rdS 1 (⟨some ⟨h.next, 0, some 0⟩, 4, 4⟩ : Slc) (h.new (.cells ((out32 x).map encB) 5 true 0)) = some ((out32 x).map encB) := hr
  refine Wp.bnd hr' ?_
  have hlen : (((wl s).take i).map out32).flatten.length = 4 * i := by
   have : ∀ l : List UInt32, (l.map out32).flatten.length = 4 * l.length := fun l => by
    induction l with
    | nil => rfl
    | cons y l ih => rw [List.map_cons, List.flatten_cons, List.length_append, ih]; simp [out32]; omega
   rw [this, List.length_take, wl_length]; omega
  obtain ⟨t', h', e1, A', c1, _⟩ := (A.keeps k1).app (bytes := 1) (fun _ => rfl) (out32 x) (by rw [hlen]; simp [out32]; omega) (by omega) (Nat.le_trans kp.nx k1.nx)
  refine Wp.bnd e1 ?_
  rw [Gx.w1 (by omega)]
  refine ih (i + 1) t' h' (by omega) ?_ ?_
  ·exact Chg.beh (kp.trans k1) c1 fun y hy ⟨a, ha, e⟩ => by have := (A.lt a ha).2; omega
  ·rw [List.take_add_one, hx]
   simpa using A'
theorem hsum_spec {k0 : Nat} (hk : 200 ≤ k0) (D : CallF) {n0 : Nat} {h : AHeap} {hb : Nat} {s : St} {rest : List UInt8} {long : Nat} (H : Hash n0 h hb s rest long) (hrl : rest.length < 64) (hlong : long ≤ 140737488351300) (kg : KG 0 h) :
  Wp (sha_Hash_Sum k0 D (some ⟨hb, 0, none⟩) h) fun q => q.1 = ⟨⟨outSt (absorb s (rest ++ (128 :: List.replicate (zeroN rest.length) 0 ++ be64 (long * 8))))⟩⟩ ∧ Keeps h q.2 := by
 simp only [sha_Hash_Sum]
 obtain ⟨h1, eb, e1, k1, F1, H1⟩ := fork_spec k0 D H (by omega)
 refine Wp.bnd e1 ?_
 let h2 := h1.new (.cells [.int .u8 128] 5 true 0)
 have k2 : Keeps h1 h2 := Keeps.new h1 _
 have F2 := F1.keeps k2
 have L2 : Lst encB 5 h1.next h2 (⟨some ⟨h1.next, 0, some 0⟩, 1, 1⟩ : Slc) [128] := ⟨by simp, h1.next, some 0, rfl, by simp [h2, outB, encB], Nat.le_refl _, by simp [h2], .inl rfl⟩
 refine Wp.jn fun j2 hj2 => ?_
 unfold sha_Hash_Sum_l2
 have hz : zeroN rest.length < 64 := Nat.mod_lt _ (by decide)
 obtain ⟨bot2, b2⟩ := iterK_of (fun _ _ _ _ => none) (sha_Hash_Sum_l2b k0 D j2) (show zeroN rest.length + 1 ≤ k0 by omega)
 rw [b2]
 refine sm_l2 (k0 := k0) D j2 bot2 (n0 := h.next) (long := long) hrl (h0 := h1) ?_ F1 (zeroN rest.length) 0 _ h2 (by omega) k2 L2
 intro h3 t3 k3 L3
 subst hj2
 dsimp only
 obtain ⟨r, HS3, _, _⟩ := (H1.keeps k3).ok
 refine Wp.bnd rfl (Wp.bnd (sldI_at HS3.blk (hcells_long (wl_length s))) ?_)
 refine Wp.jn fun j1 hj1 => ?_
 unfold sha_Hash_Sum_l1
 obtain ⟨bot1, b1⟩ := iterK_of (fun _ _ _ _ _ => none) (sha_Hash_Sum_l1b k0 D j1) (show 8 + 1 ≤ k0 by omega)
 rw [b1]
 have ec : IntKind.wrap .u64 (IntKind.wrap .u64 (long : Int) * 8) = ((long * 8 : Nat) : Int) := by
  rw [wr_u64 (long : Int) (by omega) (by omega), wr_u64 _ (by omega) (by omega)]; omega
 rw [ec]
 have hbase : (128 :: List.replicate (zeroN rest.length) (0 : UInt8)).length ≤ 1000 := by simp; omega
 have L3' : Lst encB 5 h1.next h3 t3 (128 :: List.replicate (zeroN rest.length) 0 ++ (be64 (long * 8)).take 0) := by simpa using L3
 have step := sm_l1 (k0 := k0) D j1 bot1 (Q := fun q => q.1 = ⟨⟨outSt (absorb s (rest ++ (128 :: List.replicate (zeroN rest.length) 0 ++ be64 (long * 8))))⟩⟩ ∧ Keeps h q.2) (e := some ⟨eb, 0, none⟩) (base := 128 :: List.replicate (zeroN rest.length) 0) hbase (long * 8) (h0 := h1) ?_ 8 0 t3 h3 (by omega) k3 L3'
 ·exact step
 intro h4 t4 k4 L4
 subst hj1
 dsimp only
 obtain ⟨tb, sp, rfl, g4, _, _, _⟩ := L4.st
 have bo := bytesOf_out (h := h4) (b := tb) (sp := sp) (cap := (128 :: List.replicate (zeroN rest.length) 0 ++ be64 (long * 8)).length) (l := 128 :: List.replicate (zeroN rest.length) 0 ++ be64 (long * 8)) (e := 5) (r := true) (fz := 0) g4
 refine Wp.bnd bo ?_
 have F4 := F1.keeps k4
 have tl : (128 :: List.replicate (zeroN rest.length) 0 ++ be64 (long * 8)).length ≤ 100 := by rw [List.length_append, be64_length]; simp; omega
 have tz : (⟨⟨128 :: List.replicate (zeroN rest.length) 0 ++ be64 (long * 8)⟩⟩ : ByteArray).size ≤ 100 := by rw [size_mk]; exact tl
 refine Wp.call (write_spec (k0 := k0) (by omega) D F4 (kg.chg (k1.trans k4) fun f => f) (by have := kg.lt; omega) ⟨⟨128 :: List.replicate (zeroN rest.length) 0 ++ be64 (long * 8)⟩⟩ (by omega) (by omega) (by omega)) fun q ⟨q1, q2⟩ => ?_
 obtain ⟨u5, hh5⟩ := q
 simp only at q1 q2 ⊢
 obtain ⟨r5, HS5, _, _⟩ := q1.ok
 refine Wp.jn fun j0 hj0 => ?_
 have tk : ∀ (u : St) (r : Slc) (l : Int), (hcells (wl u) r l).take 8 = (wl u).map encU := fun u r l => rfl
 have ld5 := sldA_take (sp := none) HS5.blk (show 0 < 8 by decide) (by rw [hcells_length (wl_length _)]; decide)
 rw [tk] at ld5
 refine Wp.bnd rfl (Wp.bnd ld5 (Wp.bnd rfl ?_))
 unfold sha_Hash_Sum_l0
 obtain ⟨bot0, b0⟩ := iterK_of (fun _ _ _ _ => none) (sha_Hash_Sum_l0b k0 D j0) (show 8 + 1 ≤ k0 by omega)
 rw [b0]
 have k5 : Keeps h hh5 := Chg.beh (k1.trans k4) q2 fun x hx e => by have e : h.next ≤ x := e; omega
 refine sm_l0 (k0 := k0) D j0 bot0 (absorb s (rest ++ bl ⟨⟨128 :: List.replicate (zeroN rest.length) 0 ++ be64 (long * 8)⟩⟩)) (h0 := hh5) ?_ 8 0 ⟨none, 0, 0⟩ hh5 (by omega) (Chg.refl _ _) (Acc.nil _ _ _ _)
 intro h6 t6 k6 A6
 subst hj0
 dsimp only
 rcases A6.st with ⟨_, e⟩ | ⟨b, g⟩
 ·simp [outSt, out32] at e
 ·have hg := g.s
  subst hg
  have bo := bytesOf_out (h := h6) (b := b) (sp := some 2) (cap := (outSt (absorb s (rest ++ bl ⟨⟨128 :: List.replicate (zeroN rest.length) 0 ++ be64 (long * 8)⟩⟩))).length) (l := outSt (absorb s (rest ++ bl ⟨⟨128 :: List.replicate (zeroN rest.length) 0 ++ be64 (long * 8)⟩⟩))) (e := 5) (r := true) (fz := 0) g.blk
  exact Wp.bnd bo (Wp.of ⟨rfl, k5.trans k6⟩)
end Ge.B
namespace Ge.B
open Go Gx Go.Proofs
def catL (xs : List ByteArray) : List UInt8 := (xs.map bl).flatten
theorem zeroN_mod (n : Nat) : zeroN (n % 64) = zeroN n := by unfold zeroN; rw [Nat.mod_mod]
theorem catL_take {xs : List ByteArray} {i : Nat} {x : ByteArray} (hx : xs[i]? = some x) : catL (xs.take (i + 1)) = catL (xs.take i) ++ bl x := by
 unfold catL
 rw [List.take_add_one, hx]
 simp
theorem catL_le (xs : List ByteArray) (i : Nat) : (catL (xs.take i)).length ≤ (catL xs).length := by
 have : catL xs = catL (xs.take i) ++ catL (xs.drop i) := by
  unfold catL
  rw [← List.flatten_append, ← List.map_append, List.take_append_drop]
 rw [this, List.length_append]; omega
theorem sum_spec {k0 : Nat} (hk : 200 ≤ k0) (D : CallF) {h : AHeap} {y : Slc} {xs : List ByteArray} (kg : KG 0 h) (R : Row encS h y xs) (hx : (catL xs).length ≤ 140737488351300) (hkx : (catL xs).length < 64 * k0) (hxl : xs.length < k0) (hxl2 : xs.length < 9223372036854775807) :
  Wp (sha_Sum k0 D y h) fun q => q.1 = ⟨⟨digest (catL xs)⟩⟩ ∧ Keeps h q.2 := by
 simp only [sha_Sum]
 obtain ⟨h1, hb, e1, k1, hle, H1⟩ := hnew_spec k0 D h
 refine Wp.bnd e1 ?_
 refine Wp.jn fun j hj => ?_
 unfold sha_Sum_l0
 obtain ⟨bot, b⟩ := iterK_of (fun _ _ _ _ _ => none) (sha_Sum_l0b k0 D j) (show xs.length + 1 ≤ k0 by omega)
 rw [b, R.1]
 have H1' : Hash h.next h1 hb st0 [] 0 := H1
 have main : ∀ (Q : ByteArray × AHeap → Prop), (∀ g, Chg (fun x => h.next ≤ x) h1 g → Hash h.next g hb (absorb st0 (catL xs)) (restOf (catL xs)) (catL xs).length → Wp (j (some ⟨hb, 0, none⟩) g) Q) →
   ∀ (d i : Nat) (g : AHeap), i + d = xs.length → Chg (fun x => h.next ≤ x) h1 g → Hash h.next g hb (absorb st0 (catL (xs.take i))) (restOf (catL (xs.take i))) (catL (xs.take i)).length →
    Wp (iterK bot (d + 1) (sha_Sum_l0b k0 D j) (some ⟨hb, 0, none⟩) y (xs.length : Int) (i : Int) g) Q := fun Q hQ d => by
  induction d with
  | zero =>
   intro i g hi c H
   rw [iterK_s]; simp only [sha_Sum_l0b]
   obtain rfl : i = xs.length := by omega
   rw [List.take_length] at H
   exact Wp.ifn (by simp) (hQ g c H)
  | succ d ih =>
   intro i g hi c H
   rw [iterK_s]; simp only [sha_Sum_l0b]
   have kp : Keeps h g := Chg.beh k1 c fun x hx e => by have e : h.next ≤ x := e; omega
   refine Wp.ifp (by simp; omega) ?_
   obtain ⟨x, hxi⟩ := isome (l := xs) (i := i) (by omega)
   obtain ⟨q, i1, i2⟩ := (R.keeps kp).ldS hxi
   refine Wp.bnd i1 (Wp.bnd i2 ?_)
   have hc := catL_take hxi
   have hle' := catL_le xs (i + 1)
   rw [hc, List.length_append, bl_length] at hle'
   have hrl := restOf_length (catL (xs.take i))
   refine Wp.call (write_spec (k0 := k0) (by omega) D H (kg.chg kp fun f => f) (by have := kg.lt; omega) x (by omega) (by omega) (by omega)) fun q ⟨q1, q2⟩ => ?_
   rw [Gx.w1 (by omega)]
   refine ih (i + 1) q.2 (by omega) (c.trans q2) ?_
   rw [hc, List.length_append, bl_length, ← absorb_app (bl x) _ st0 (catL (xs.take i)) (Nat.le_refl _), ← restOf_app]
   exact q1
 refine main _ ?_ xs.length 0 h1 (by omega) (Chg.refl _ _) ?_
 ·intro g c H
  subst hj
  dsimp only
  have kp : Keeps h g := Chg.beh k1 c fun x hx e => by have e : h.next ≤ x := e; omega
  refine Wp.call (hsum_spec hk D H (by rw [restOf_length]; omega) (by omega) (kg.chg kp fun f => f)) fun q ⟨q1, q2⟩ => ?_
  refine Wp.of ⟨?_, kp.trans q2⟩
  rw [q1, restOf_length, zeroN_mod, absorb_app _ _ _ _ (Nat.le_refl _)]
  rfl
 ·have e0 : catL (xs.take 0) = [] := rfl
  rw [e0, absorb_lt (by simp), restOf_lt (by simp)]
  exact H1'
end Ge.B
namespace Ge.B
open Go Gx
def fixL (n : Nat) : Nat → List UInt8
 | 0 => []
 | k + 1 => UInt8.ofNat (n / 256 ^ k) :: fixL n k
theorem fixL_length (n : Nat) : ∀ k, (fixL n k).length = k
 | 0 => rfl
 | k + 1 => by simp [fixL, fixL_length n k]
theorem fixL_get (n : Nat) : ∀ (k i : Nat), i < k → (fixL n k)[i]? = some (UInt8.ofNat (n / 256 ^ (k - 1 - i)))
 | 0, i, h => by omega
 | k + 1, 0, _ => by simp [fixL]
 | k + 1, i + 1, h => by
  simp only [fixL, List.getElem?_cons_succ]
  rw [fixL_get n k i (by omega)]
  congr 4; omega
def numL (a : Nat) : List UInt8 → Nat
 | [] => a
 | c :: l => numL (a * 256 + c.toNat) l
theorem numL_add (l : List UInt8) : ∀ (a : Nat), numL a l = a * 256 ^ l.length + numL 0 l := by
 induction l with
 | nil => intro a; simp [numL]
 | cons c l ih =>
  intro a
  simp only [numL, List.length_cons]
  rw [ih (a * 256 + c.toNat), ih (0 * 256 + c.toNat)]
  simp only [Nat.pow_succ, Nat.add_mul, Nat.zero_mul, Nat.zero_add]
  have : a * 256 * 256 ^ l.length = a * (256 ^ l.length * 256) := by rw [Nat.mul_assoc, Nat.mul_comm 256]
  omega
theorem numL_lt (l : List UInt8) : numL 0 l < 256 ^ l.length := by
 induction l with
 | nil => simp [numL]
 | cons c l ih =>
  simp only [numL, List.length_cons, Nat.zero_mul, Nat.zero_add]
  rw [numL_add]
  have hc : c.toNat < 256 := UInt8.toNat_lt c
  have : c.toNat * 256 ^ l.length + 256 ^ l.length ≤ 256 * 256 ^ l.length := by
   rw [← Nat.succ_mul]; exact Nat.mul_le_mul_right _ hc
  rw [Nat.pow_succ]; omega
theorem toNat_ofNat (n : Nat) : (UInt8.ofNat n).toNat = n % 256 := by simp
theorem num_fix (n : Nat) : ∀ k, numL 0 (fixL n k) = n % 256 ^ k
 | 0 => by simp [fixL, numL, Nat.mod_one]
 | k + 1 => by
  simp only [fixL, numL, Nat.zero_mul, Nat.zero_add]
  rw [numL_add, num_fix n k, fixL_length, toNat_ofNat]
  rw [Nat.pow_succ, Nat.mod_mul, Nat.mul_comm, Nat.add_comm]
theorem ofNat_mod (n : Nat) : UInt8.ofNat (n % 256) = UInt8.ofNat n := by
 apply UInt8.toNat_inj.1
 rw [toNat_ofNat, toNat_ofNat]; omega
end Ge.B
namespace Ge.B
open Go Gx Go.Proofs
theorem ldI_at {h : AHeap} {b o : Nat} {sp : Option Nat} {c : List Value} {e : TypeId} {r : Bool} {fz : Nat} {k : IntKind} {x : Int} (hb : h.get b = some (.cells c e r fz)) (hc : c[o]? = some (.int k x)) : ldI k ⟨b, o, sp⟩ h = some x := by
 simp [ldI, AHeap.rd1, hb, hc, decI]
theorem ldS_at {h : AHeap} {b o : Nat} {sp : Option Nat} {c : List Value} {e : TypeId} {r : Bool} {fz : Nat} {x : ByteArray} (hb : h.get b = some (.cells c e r fz)) (hc : c[o]? = some (.string x)) : ldS ⟨b, o, sp⟩ h = some x := by
 simp [ldS, AHeap.rd1, hb, hc, decS]
theorem wu8 (m : Nat) : IntKind.wrap .u8 (m : Int) = ((m % 256 : Nat) : Int) := by rw [Go.IntKind.wrap_u8]; omega
def fixP (n k i : Nat) : List UInt8 := (List.range k).map fun j => if k ≤ j + i then UInt8.ofNat (n / 256 ^ (k - 1 - j)) else 0
theorem fixP_length (n k i : Nat) : (fixP n k i).length = k := by simp [fixP]
theorem fixP_zero (n k : Nat) : fixP n k 0 = List.replicate k 0 := by
 apply List.ext_getElem?
 intro j
 simp only [fixP, List.getElem?_map, List.getElem?_replicate]
 by_cases hj : j < k
 ·simp [hj]; omega
 ·simp [hj]
theorem fixP_all (n k : Nat) : fixP n k k = fixL n k := by
 apply List.ext_getElem?
 intro j
 by_cases hj : j < k
 ·rw [fixL_get n k j hj]; simp [fixP, hj]
 ·rw [List.getElem?_eq_none (by rw [fixP_length]; omega), List.getElem?_eq_none (by rw [fixL_length]; omega)]
theorem fixP_set {n k i : Nat} (hi : i < k) : (fixP n k i).set (k - 1 - i) (UInt8.ofNat (n / 256 ^ i)) = fixP n k (i + 1) := by
 apply List.ext_getElem?
 intro j
 by_cases hj : j < k
 ·rw [List.getElem?_set]
  by_cases he : k - 1 - i = j
  ·rw [if_pos he, if_pos (by rw [fixP_length]; omega)]
   have : i = k - 1 - j := by omega
   subst this
   simp [fixP, hj]
   omega
  ·rw [if_neg he]
   simp only [fixP, List.getElem?_map, List.getElem?_range hj, Option.map_some, Option.some.injEq]
   by_cases h1 : k ≤ j + i
   ·rw [if_pos h1, if_pos (by omega)]
   ·rw [if_neg h1, if_neg (by omega)]
 ·rw [List.getElem?_eq_none (by rw [List.length_set, fixP_length]; omega), List.getElem?_eq_none (by rw [fixP_length]; omega)]
abbrev nfT := Int → Int → Slc → Int → Int → AHeap → Option ((ByteArray × Int) × AHeap)
theorem fix_l0 (K : Nat) (D : CallF) (j) (bot : nfT) {n k : Nat} (hn : n < 9223372036854775808) (hk : k ≤ 7) {b cap : Nat} {sp : Option Nat} {e : TypeId} : ∀ (m i : Nat) (h : AHeap), i + m = k → h.get b = some (.cells ((fixP n k i).map encB) e true 0) →
  iterK bot (m + 1) (num_Fixed_l0b K D j) (n : Int) (k : Int) (⟨some ⟨b, 0, sp⟩, k, cap⟩ : Slc) (k : Int) (i : Int) h = j (n : Int) (k : Int) (⟨some ⟨b, 0, sp⟩, k, cap⟩ : Slc) (h.set b (.cells ((fixL n k).map encB) e true 0))
 | 0, i, h, hi, hb => by
  obtain rfl : i = k := by omega
  rw [fixP_all] at hb
  rw [iterK_s]; simp only [num_Fixed_l0b]
  refine ifn (by simp) ?_
  rw [set_self hb]
 | m + 1, i, h, hi, hb => by
  rw [iterK_s]; simp only [num_Fixed_l0b]
  refine ifp (by simp; omega) ?_
  have e1 : IntKind.wrap .i64 (8 * (i : Int)) = ((8 * i : Nat) : Int) := by rw [w64 _ (by omega)]; omega
  have e2 : IntKind.wrap .i64 (IntKind.wrap .i64 ((k : Int) - 1) - (i : Int)) = ((k - 1 - i : Nat) : Int) := by rw [w64 ((k : Int) - 1) (by omega), w64 _ (by omega)]; omega
  rw [e1, e2]
  refine ifp (by omega) ?_
  refine bnd (idxL_out (by omega)) ?_
  rw [shr64 n (8 * i) (by omega), wu8]
  refine bnd (stB_out hb (by rw [fixP_length]; omega) (Nat.mod_lt _ (by decide))) ?_
  rw [w1 (by omega), ofNat_mod, Nat.pow_mul, show (2 : Nat) ^ 8 = 256 from rfl, fixP_set (by omega)]
  refine (fix_l0 K D j bot hn hk (e := e) m (i + 1) (h.set b (.cells ((fixP n k (i + 1)).map encB) e true 0)) (by omega) (by simp)).trans ?_
  rw [set_set]
theorem nfix_spec {kf : Nat} (hkf : 9 ≤ kf) (D : CallF) (n k : Nat) (h : AHeap) (hk1 : 1 ≤ k) (hk7 : k ≤ 7) (hn : n < 9223372036854775808) :
  ∃ h', num_Fixed kf D (n : Int) (k : Int) h = some ((if n < 256 ^ k then ((⟨⟨fixL n k⟩⟩ : ByteArray), 0) else ((⟨#[]⟩ : ByteArray), 1)), h') ∧ Keeps h h' := by
 simp only [num_Fixed]
 let H := (h.new (.cells ((List.replicate k (0 : UInt8)).map encB) 5 true 0)).set h.next (.cells ((fixL n k).map encB) 5 true 0)
 refine ⟨H, ?_, Chg.beh (Keeps.new h _) (Chg.set (S := fun x => x = h.next) (.inr rfl)) (fun x hx e => by have : x = h.next := e; omega)⟩
 refine jn ?_
 refine ifn (by simp <;> omega) ?_
 refine ifn (by simp <;> omega) ?_
 refine ifn (by simp <;> omega) ?_
 refine ifp (by omega) ?_
 refine jn ?_
 rw [Int.toNat_natCast, zeros_bytes]
 unfold num_Fixed_l0
 have hb : (h.new (.cells ((List.replicate k (0 : UInt8)).map encB) 5 true 0)).get h.next = some (.cells ((fixP n k 0).map encB) 5 true 0) := by rw [fixP_zero]; simp
 generalize hj : (fun (n7 : Int) (bytes8 : Int) (b9 : Slc) (h10 : AHeap) => joinK _ _) = j
 obtain ⟨bot', e2⟩ := iterK_of (α := nfT) (fun _ _ _ _ _ _ => none) (num_Fixed_l0b kf D j) (show k + 1 ≤ kf by omega)
 rw [e2]
 refine (fix_l0 kf D j bot' hn hk7 k 0 _ (by omega) hb).trans ?_
 subst hj
 refine jn ?_
 refine ifp (by simp; omega) ?_
 have e1 : IntKind.wrap .i64 (8 * (k : Int)) = ((8 * k : Nat) : Int) := by rw [w64 _ (by omega)]; omega
 rw [e1]
 refine ifp (by omega) ?_
 rw [shr64 n (8 * k) (by omega), Nat.pow_mul, show (2 : Nat) ^ 8 = 256 from rfl]
 by_cases hlt : n < 256 ^ k
 ·rw [if_pos hlt]
  refine ifn (by simp [Nat.div_eq_of_lt hlt]) ?_
  have hg : H.get h.next = some (.cells ((fixL n k).map encB) 5 true 0) := by simp [H]
  have := bytesOf_out (cap := k) (sp := some 0) hg
  rw [fixL_length] at this
  exact bnd this rfl
 ·rw [if_neg hlt]
  refine ifp ?_ rfl
  have : 0 < n / 256 ^ k := Nat.div_pos (by omega) (Nat.pow_pos (by decide))
  exact decide_eq_true (by omega)
end Ge.B
namespace Ge.B
open Go Gx Go.Proofs
theorem num_step {a i n : Nat} (h : a < 256 ^ i) (hi : i < n) (hn : n ≤ 7) : a * 256 + 256 ≤ 72057594037927936 := by
 have h1 : 256 ^ i ≤ 256 ^ 6 := Nat.pow_le_pow_right (by decide) (by omega)
 have : (256 : Nat) ^ 6 = 281474976710656 := by decide
 omega
theorem num_step2 {a i : Nat} {c : UInt8} (h : a < 256 ^ i) : a * 256 + c.toNat < 256 ^ (i + 1) := by
 have hc : c.toNat < 256 := UInt8.toNat_lt c
 rw [Nat.pow_succ]; omega
theorem ba_app (a b : List UInt8) : (⟨⟨a⟩⟩ : ByteArray) ++ (⟨⟨b⟩⟩ : ByteArray) = ⟨⟨a ++ b⟩⟩ := by
 apply bl_inj
 simp [bl]
end Ge.B
namespace Ge.B
open Go Gx Go.Proofs
end Ge.B
namespace Ge.B
open Go Gx Go.Proofs
end Ge.B
namespace Ge
open Go Gx
theorem bknown_spec (k : Nat) (D : CallF) (n : Int) (h : AHeap) : blob_known k D n h = some (decide (n = 1 ∨ n = 2), h) := by
 simp only [blob_known]
 by_cases c : n = 1
 ·rw [if_pos (by simpa using c)]; simp [c]
 ·rw [if_neg (by simpa using c)]
  congr 2
  by_cases d : n = 2
  ·simp [d]
  ·rw [decide_eq_false (fun q => q.elim c d)]; simpa using d
theorem pS_suf {most : Nat} {l : List UInt8} {n : Nat} {r : List UInt8} (h : pS most l = some (n, r)) : n ≤ most ∧ ∃ m, m ≤ l.length ∧ r = l.drop m := by
 unfold pS at h
 cases hq : lebQ 9 true l with
 | none => rw [hq] at h; cases h
 | some p =>
  rw [hq] at h
  simp only [Option.bind_some] at h
  split at h
  ·cases h
  ·rename_i c
   cases h
   obtain ⟨m, h1, h2⟩ := lebQ_suf (n := n) (r := r) hq
   exact ⟨by omega, m, h1, h2⟩
section
variable {k : Nat} {h : AHeap} {s : ByteArray}
end
end Ge
namespace Ge
open Go Gx
def idB (c : Nat) (t : List UInt8) : ByteArray := ⟨⟨digest (UInt8.ofNat c :: t)⟩⟩
def isK (n : Int) : Bool := decide (n = 1 ∨ n = 2)
noncomputable def idV (n : Int) (t : List UInt8) : ByteArray × Int := if isK n = true then (idB n.toNat t, 0) else (⟨#[]⟩, 1)
theorem wrapK {n : Int} (h : isK n = true) : Value.int .u8 (IntKind.wrap .u8 n) = encB (UInt8.ofNat n.toNat) := by
 unfold isK at h
 simp only [decide_eq_true_eq] at h
 rcases h with h | h <;> subst h <;> rfl
section
variable {k : Nat} {h : AHeap} {t : ByteArray} {n : Int}
theorem one_byte {h h2 : AHeap} {b : UInt8} (g : h2.get h.next = some (.cells [encB b] 5 true 0)) : bytesOf h2 ⟨some ⟨h.next, 0, some 0⟩, 1, 1⟩ = some ⟨⟨[b]⟩⟩ :=
 bytesOf_out (l := [b]) g
theorem cat_two (a b : ByteArray) : B.catL [a, b] = bl a ++ bl b := by simp [B.catL]
theorem two_row {h : AHeap} {b : Nat} {x y : ByteArray} (g : h.get b = some (.cells [.string x, .string y] 9 true 0)) (hl : b < h.next) : Row encS h ⟨some ⟨b, 0, some 0⟩, 2, 2⟩ [x, y] :=
 Row.of_block (enc := encS) (xs := [x, y]) g hl fun i z hz => by
  match i with
  | 0 => simp at hz; subst hz; rfl
  | 1 => simp at hz; subst hz; rfl
  | i + 2 => simp at hz
theorem idV_no {n : Int} {t : List UInt8} (h : isK n = false) : idV n t = (⟨#[]⟩, 1) := by unfold idV; rw [h]; rfl
theorem idV_yes {n : Int} {t : List UInt8} (h : isK n = true) : idV n t = (idB n.toNat t, 0) := by unfold idV; rw [if_pos h]
theorem bid_spec (D : CallF) (kg : KG 0 h) (ht : t.size ≤ 140737488351232) (hk : 200 ≤ k) (hk2 : t.size + 100 < 32 * k) :
  Gx.Wp (blob_Id k D n t h) fun z => z.1 = idV n (bl t) ∧ Keeps h z.2 := by
 simp only [blob_Id]
 refine .bnd (bknown_spec k D n h) ?_
 have hd : decide (n = 1 ∨ n = 2) = isK n := rfl
 rw [hd]
 cases hn : isK n with
 | false =>
  exact .ifp rfl (.of ⟨(idV_no hn).symm, Chg.refl _ _⟩)
 | true =>
  refine .ifn (by simp) (Wp.newE fun h2 e2 k2 n2 g2 => ?_)
  rw [wrapK hn] at g2
  refine .bnd (one_byte g2) (Wp.newE fun h4 e4 k4 n4 g4 => ?_)
  have kg4 : KG 0 h4 := (kg.chg k2 fun f => f).chg k4 fun f => f
  refine .call (B.sum_spec hk D kg4 (two_row g4 (by omega)) (by rw [cat_two, bl_mk, List.length_append, bl_length]; simp; omega) (by rw [cat_two, bl_mk, List.length_append, bl_length]; simp; omega) (by simp; omega) (by simp)) fun r5 ⟨q5, k5⟩ => .of ⟨?_, (k2.trans k4).trans k5⟩
  rw [q5, cat_two, bl_mk, idV_yes hn]; rfl
def encP (c : Nat) (t : List UInt8) : List UInt8 := if (packA t).length < t.length then UInt8.ofNat (c + 16) :: (leb t.length ++ packA t) else UInt8.ofNat c :: (leb t.length ++ t)
noncomputable def encV (n : Int) (t : ByteArray) : ByteArray × Int := if isK n = true then (if 65536 < t.size then (⟨#[]⟩, 2) else (⟨⟨encP n.toNat (bl t)⟩⟩, 0)) else (⟨#[]⟩, 1)
theorem wrapK16 {n : Int} (h : isK n = true) : Value.int .u8 (IntKind.wrap .u8 (Go.bits .or .i64 n 16)) = encB (UInt8.ofNat (n.toNat + 16)) := by
 unfold isK at h
 simp only [decide_eq_true_eq] at h
 rcases h with h | h <;> subst h <;> rfl
theorem ba3 (a b c : List UInt8) : ((⟨⟨a⟩⟩ : ByteArray) ++ (⟨⟨b⟩⟩ : ByteArray)) ++ (⟨⟨c⟩⟩ : ByteArray) = ⟨⟨a ++ (b ++ c)⟩⟩ := by
 apply bl_inj
 simp [bl]
theorem packL_len (s : List UInt8) : ∀ (f i kept : Nat) (es : List Fr) (out : List UInt8), kept ≤ i → i ≤ s.length → out.length ≤ 2 * kept → (packL s f i kept es out).length ≤ 2 * s.length + 2
 | 0, i, kept, es, out, h1, h2, h3 => by simp [packL]; omega
 | f + 1, i, kept, es, out, h1, h2, h3 => by
  unfold packL
  split
  ·split
   ·rename_i c4
    have sq := seqB_len (l := (s.take i).drop kept) (d := (bestF s i es).1) c4
    have sl2 : ((s.take i).drop kept).length = i - kept := by simp; omega
    refine packL_len s f _ _ _ _ (Nat.le_refl _) (by omega) ?_
    rw [List.length_append]; omega
   ·exact packL_len s f _ _ _ _ (by omega) (by omega) h3
  ·have h1 := numB_len (s.drop kept).length
   unfold seqB
   rw [if_neg (by omega)]
   simp only [List.length_append, List.length_cons, List.length_nil, List.length_drop] at h1 ⊢
   omega
theorem packA_len (l : List UInt8) : (packA l).length ≤ 2 * l.length + 2 := packL_len l _ 0 0 [] [] (Nat.le_refl _) (by omega) (by simp)
theorem encV_no {n : Int} (h : isK n = false) : encV n t = (⟨#[]⟩, 1) := by unfold encV; rw [h]; rfl
theorem encV_long {n : Int} (h : isK n = true) (c : 65536 < t.size) : encV n t = (⟨#[]⟩, 2) := by unfold encV; rw [if_pos h, if_pos c]
theorem encV_yes {n : Int} (h : isK n = true) (c : ¬ 65536 < t.size) : encV n t = (⟨⟨encP n.toNat (bl t)⟩⟩, 0) := by unfold encV; rw [if_pos h, if_neg c]
theorem bencode_spec (D : CallF) (hk : 1200000 ≤ k) :
  Gx.Wp (blob_Encode k D n t h) fun z => z.1 = encV n t ∧ Keeps h z.2 := by
 simp only [blob_Encode]
 refine .bnd (bknown_spec k D n h) ?_
 have hd : decide (n = 1 ∨ n = 2) = isK n := rfl
 rw [hd]
 cases hn : isK n with
 | false => exact .ifp rfl (.of ⟨(encV_no hn).symm, Chg.refl _ _⟩)
 | true =>
  refine .ifn (by simp) ?_
  by_cases c : 65536 < t.size
  ·exact .ifp (by simp; omega) (.of ⟨(encV_long hn c).symm, Chg.refl _ _⟩)
  rw [encV_yes hn c]
  refine .ifn (by simp; omega) (.call (short_spec D (by omega) t.size (by omega) h) fun r2 ⟨q2, k2⟩ => .call (pack_spec D (by omega) (by omega)) fun r3 ⟨q3, k3⟩ => Wp.jn fun j10 h10 => ?_)
  have kz := k2.trans k3
  have bt : (bl t).length = t.size := bl_length t
  have ll : (leb t.size).length ≤ 3 := leb_len 2 t.size (by omega)
  have pl := packA_len (bl t)
  have J : ∀ y, y = decide ((packA (bl t)).length < (bl t).length) → Gx.Wp (j10 n t (bA (leb t.size)) ⟨⟨packA (bl t)⟩⟩ y r3.2) fun z => z.1 = ((⟨⟨encP n.toNat (bl t)⟩⟩ : ByteArray), (0 : Int)) ∧ Keeps h z.2 := fun y hy => by
   rw [h10]
   by_cases cc : (packA (bl t)).length < (bl t).length
   ·have ee : encP n.toNat (bl t) = UInt8.ofNat (n.toNat + 16) :: (leb t.size ++ packA (bl t)) := by unfold encP; rw [if_pos cc, bt]
    rw [ee]
    refine .ifp (by rw [hy]; simpa using cc) (Wp.newE fun h11 e11 k11 n11 g11 => ?_)
    rw [wrapK16 hn] at g11
    refine .bnd (one_byte g11) (.ifp ?_ (.ifp ?_ (.of ⟨?_, kz.trans k11⟩)))
    ·show 1 + (leb t.size).length ≤ _; omega
    ·rw [ByteArray.size_append]
     show 1 + (leb t.size).length + (packA (bl t)).length ≤ _
     omega
    ·show (((⟨⟨_⟩⟩ : ByteArray) ++ bA (leb t.size)) ++ (⟨⟨_⟩⟩ : ByteArray), (0 : Int)) = _
     rw [bA, ba3]; rfl
   ·have ee : encP n.toNat (bl t) = UInt8.ofNat n.toNat :: (leb t.size ++ bl t) := by unfold encP; rw [if_neg cc, bt]
    rw [ee]
    refine .ifn (by rw [hy]; simpa using cc) (Wp.newE fun h11 e11 k11 n11 g11 => ?_)
    rw [wrapK hn] at g11
    refine .bnd (one_byte g11) (.ifp ?_ (.ifp ?_ (.of ⟨?_, kz.trans k11⟩)))
    ·show 1 + (leb t.size).length ≤ _; omega
    ·rw [ByteArray.size_append]
     show 1 + (leb t.size).length + t.size ≤ _
     omega
    ·have := ba3 [UInt8.ofNat n.toNat] (leb t.size) (bl t)
     show (((⟨⟨_⟩⟩ : ByteArray) ++ bA (leb t.size)) ++ t, (0 : Int)) = _
     rw [bA]
     exact congrArg (·, (0 : Int)) this
  rw [q2, q3]
  exact .ifp rfl (J _ (by rw [bt, size_mk]; simp))
end
end Ge
namespace Ge
open Go Gx
section
variable {k : Nat} {h : AHeap} {s : ByteArray}
end
end Ge
namespace Ge
open Go Gx
section
variable {k : Nat} {h : AHeap} {s : ByteArray}
end
end Ge
namespace Ge
open Go Gx
theorem tru {x : Option (Bool × AHeap)} (w : Gx.Wp x fun z => z.1 = true) : ∃ h', x = some (true, h') := by
 obtain ⟨⟨b, h'⟩, e, q⟩ := w
 exact ⟨h', by rw [e, show b = true from q]⟩
end Ge
namespace Ge
open Go Gx
theorem pS_ofl {n : Nat} (hn : n ≤ 65536) (r : List UInt8) : pS 65536 (leb n ++ r) = some (n, r) := by
 unfold pS
 rw [lebQ_of 8 r (by omega) (fun h => by cases h)]
 simp; omega
theorem encP_len {c : Nat} {t : List UInt8} (ht : t.length ≤ 65536) : (encP c t).length ≤ t.length + 4 ∧ 2 ≤ (encP c t).length := by
 have ll : (leb t.length).length ≤ 3 := leb_len 2 t.length (by omega)
 have l1 := leb_pos t.length
 unfold encP
 split
 ·simp only [List.length_cons, List.length_append]; omega
 ·simp only [List.length_cons, List.length_append]; omega
section
variable {k : Nat} {h : AHeap} {t : ByteArray}
end
end Ge
namespace Ge
open Go Gx
theorem wstr {k pb o base : Nat} {H : AHeap} {c : List Value} {s : Slc} {l : List UInt8} {pv : Value} (D : CallF) (g : H.get pb = some (.cells c 105 true 0)) (hl : pb < H.next) (hpc : c[o]? = some pv) (hpv : pv = .pointer none ∨ pv = .pointer (some ⟨pb, o, none⟩))
  (hs : c[o + 1]? = some (.slice s.a s.len s.cap)) (ht : tabIn 105 o c.length ccTab = true) (A : Acc encB 5 base H s l) (ne : ∀ a, s.a = some a → a.block ≠ pb) (hb : base ≤ H.next) (x : ByteArray) (hx : 2 * (l.length + x.size) ≤ 281474976710656) :
  Gx.Wp (strings_Builder_WriteString k D (some ⟨pb, o, none⟩) x H) fun z => ∃ s', z.2.get pb = some (.cells ((c.set o (.pointer (some ⟨pb, o, none⟩))).set (o + 1) (.slice s'.a s'.len s'.cap)) 105 true 0) ∧ Acc encB 5 base z.2 s' (l ++ bl x) ∧ Chg (fun y => y = pb ∨ ofS s y) H z.2 ∧ (∀ a, s'.a = some a → H.next ≤ a.block ∨ ofS s a.block) ∧ H.next ≤ z.2.next := by
 simp only [strings_Builder_WriteString]
 have ho : o + 1 < c.length := (List.getElem?_eq_some_iff.1 hs).1
 obtain ⟨H1, e1, g1, c1⟩ : ∃ H1, ccA ccTab ⟨pb, o, none⟩ H = some H1 ∧ H1.get pb = some (.cells (c.set o (.pointer (some ⟨pb, o, none⟩))) 105 true 0) ∧ Chg (· = pb) H H1 := by
  rcases hpv with rfl | rfl
  ·refine ⟨_, ?_, sset_get _ _ _, Chg.set (.inr rfl)⟩
   ·unfold ccA
    simp only [g]
    rw [if_pos ⟨ht, trivial⟩]
    simp only [hpc]
    rw [st1_of g (by omega) rfl]
  ·have e : c.set o (.pointer (some ⟨pb, o, none⟩)) = c := by
    apply List.ext_getElem?
    intro j
    rw [List.getElem?_set]
    split
    ·rename_i h; subst h; rw [if_pos (by omega), hpc]
    ·rfl
   refine ⟨H, ?_, by rw [e]; exact g, .refl _ _⟩
   ·unfold ccA
    simp only [g]
    rw [if_pos ⟨ht, trivial⟩]
    simp [hpc]
 have nx1 := c1.nx
 have A1 : Acc encB 5 base H1 s l := A.chg c1 fun a ha e => ne a ha e
 obtain ⟨s', h5, a5, A5, c5, d5⟩ : ∃ s' h5, appendA 1 1 5 H1 s (bytesL x) x.size = some (s', h5) ∧ Acc encB 5 base h5 s' (l ++ bl x) ∧ Chg (ofS s) H1 h5 ∧ ∀ a, s'.a = some a → H1.next ≤ a.block ∨ ofS s a.block := by
  obtain ⟨s', h5, p1, p2, p3, p4⟩ := A1.app (fun _ => rfl) (bl x) (bytes := 1) (by have : (bl x).length = x.size := rfl; omega) (by decide) (by omega)
  exact ⟨s', h5, p1, p2, p3, fun a ha => (p4 a ha).imp id fun q => ⟨a, q, rfl⟩⟩
 have n5 := c5.nx
 have g5 := c5.got (show pb < H1.next by omega) (fun ⟨a, ha, e⟩ => ne a ha e.symm) g1
 have hs1 : (c.set o (.pointer (some ⟨pb, o, none⟩)))[o + 1]? = some (.slice s.a s.len s.cap) := by rw [List.getElem?_set_ne (by omega)]; exact hs
 refine .bnd rfl (.bnd e1 (.bnd rfl (.bnd (sldL_at g1 hs1) (.bnd a5 (.bnd rfl (.bnd (st1_of g5 (by simp; omega) rfl) (.of ?_)))))))
 have d5' : ∀ a, s'.a = some a → a.block ≠ pb := fun a ha e => by
  rcases d5 a ha with q | ⟨b, hb, q⟩
  ·omega
  ·exact ne b hb (q ▸ e)
 refine ⟨s', sset_get _ _ _, A5.chg (S := (· = pb)) (Chg.set (.inr rfl)) fun a ha e => d5' a ha e, ?_, fun a ha => (d5 a ha).imp (fun q => by omega) id, by show H.next ≤ h5.next; omega⟩
 exact Chg.beh (T := (· = pb)) (Chg.beh (T := ofS s) (c1.wk fun y _ e => .inl e) c5 fun y _ e => .inr e) (Chg.set (.inr rfl)) fun y _ e => .inl e
def sK (s : ByteArray) : Value := .string s
abbrev PSt := List UInt8 × List UInt8 × List It × List (ByteArray × ByteArray × Nat)
def pCells (p1 p2 : Value) (s1 s2 si : Slc) (lim : Int) (mb : Nat) : List Value :=
 [p1, .slice s1.a s1.len s1.cap, .int .i64 lim, p2, .slice s2.a s2.len s2.cap, .slice si.a si.len si.cap, .map (some mb)]
structure PB (H : AHeap) (pb mb : Nat) (s1 s2 si : Slc) (lim : Int) (q : PSt) : Prop where
 g : ∃ p1 p2, H.get pb = some (.cells (pCells p1 p2 s1 s2 si lim mb) 105 true 0) ∧ (p1 = .pointer none ∨ p1 = .pointer (some ⟨pb, 0, none⟩)) ∧ (p2 = .pointer none ∨ p2 = .pointer (some ⟨pb, 3, none⟩))
 A1 : Acc encB 5 (pb + 1) H s1 q.1
 A2 : Acc encB 5 (pb + 1) H s2 q.2.1
 A3 : AccW 6 itC 57 (pb + 1) H si q.2.2.1
 M : MapAt sK sK H mb q.2.2.2
 lt : pb < H.next
 mlt : pb < mb ∧ mb < H.next
 ap : ApartS s1 s2
section
variable {k pb mb : Nat} {H H' : AHeap} {s1 s2 si : Slc} {lim : Int} {q : PSt}
theorem PB.chg {S : Nat → Prop} (B : PB H pb mb s1 s2 si lim q) (c : Chg S H H') (hs : ∀ y, S y → y < pb ∨ H.next ≤ y) : PB H' pb mb s1 s2 si lim q := by
 have nx := c.nx
 have hm := B.mlt
 have hl := B.lt
 have no : ∀ y, pb ≤ y → y < H.next → ¬ S y := fun y h1 h2 h3 => by have := hs y h3; omega
 obtain ⟨p1, p2, g, h1, h2⟩ := B.g
 exact ⟨⟨p1, p2, c.got hl (no _ (Nat.le_refl _) hl) g, h1, h2⟩, B.A1.chg c fun a ha => no _ (by have := B.A1.lt a ha; omega) (B.A1.lt a ha).1, B.A2.chg c fun a ha => no _ (by have := B.A2.lt a ha; omega) (B.A2.lt a ha).1,
  B.A3.chg c fun a ha => no _ (by have := B.A3.lt a ha; omega) (B.A3.lt a ha).1, B.M.chg c hm.2 (no _ (by omega) hm.2), by omega, by omega, B.ap⟩
theorem PB.keeps (B : PB H pb mb s1 s2 si lim q) (c : Keeps H H') : PB H' pb mb s1 s2 si lim q := B.chg c fun _ f => f.elim
theorem acc_cells {base : Nat} {s : Slc} {l : List UInt8} {a : Addr} (A : Acc encB 5 base H s l) (ha : s.a = some a) : ∃ c, H.get a.block = some (.cells c 5 true 0) := by
 rcases A.st with ⟨h, _⟩ | ⟨b, g⟩
 ·rw [h] at ha; cases ha
 ·rw [g.s] at ha; cases ha; exact ⟨_, g.blk⟩
theorem accW_cells {base : Nat} {s : Slc} {l : List It} {a : Addr} (A : AccW 6 itC 57 base H s l) (ha : s.a = some a) : ∃ c, H.get a.block = some (.cells c 57 true 0) := by
 rcases A.st with ⟨h, _⟩ | ⟨b, h, g, _⟩
 ·rw [h] at ha; cases ha
 ·rw [h] at ha; cases ha; exact ⟨_, g⟩
theorem PB.ne13 (B : PB H pb mb s1 s2 si lim q) {s : Slc} {base : Nat} {l : List UInt8} (A : Acc encB 5 base H s l) {a : Addr} (ha : si.a = some a) : ¬ ofS s a.block := fun ⟨b, hb, e⟩ => by
 obtain ⟨c1, g1⟩ := acc_cells A hb
 obtain ⟨c2, g2⟩ := accW_cells B.A3 ha
 rw [e, g1] at g2
 cases g2
theorem PB.neM (B : PB H pb mb s1 s2 si lim q) {s : Slc} {base : Nat} {l : List UInt8} (A : Acc encB 5 base H s l) : ¬ ofS s mb := fun ⟨b, hb, e⟩ => by
 obtain ⟨c1, g1⟩ := acc_cells A hb
 have g2 : H.get mb = some (.map _ _) := B.M
 rw [e, g1] at g2
 cases g2
theorem PB.ld1 (B : PB H pb mb s1 s2 si lim q) : ldL ⟨pb, 0 + 0 + 0 + 1, none⟩ H = some s1 := by obtain ⟨p1, p2, g, _⟩ := B.g; exact sldL_at g rfl
theorem PB.ld2 (B : PB H pb mb s1 s2 si lim q) : ldL ⟨pb, 0 + 3 + 1, none⟩ H = some s2 := by obtain ⟨p1, p2, g, _⟩ := B.g; exact sldL_at g rfl
theorem PB.ld3 (B : PB H pb mb s1 s2 si lim q) : ldL ⟨pb, 0 + 5, none⟩ H = some si := by obtain ⟨p1, p2, g, _⟩ := B.g; exact sldL_at g rfl
theorem PB.ldl (B : PB H pb mb s1 s2 si lim q) : ldI .i64 ⟨pb, 0 + 2, none⟩ H = some lim := by obtain ⟨p1, p2, g, _⟩ := B.g; exact sldI_at g rfl
theorem PB.ldm (B : PB H pb mb s1 s2 si lim q) : ldM ⟨pb, 0 + 6, none⟩ H = some (some mb) := by obtain ⟨p1, p2, g, _⟩ := B.g; exact ldM_at g rfl
theorem PB.len1 (B : PB H pb mb s1 s2 si lim q) (D : CallF) : strings_Builder_Len k D (some ⟨pb, 0 + 0 + 0, none⟩) H = some ((q.1.length : Int), H) := by
 simp only [strings_Builder_Len]
 have : s1.len = q.1.length := B.A1.row.1
 exact bnd rfl (bnd B.ld1 (by rw [this]))
theorem PB.len2 (B : PB H pb mb s1 s2 si lim q) (D : CallF) : strings_Builder_Len k D (some ⟨pb, 0 + 3, none⟩) H = some ((q.2.1.length : Int), H) := by
 simp only [strings_Builder_Len]
 have : s2.len = q.2.1.length := B.A2.row.1
 exact bnd rfl (bnd B.ld2 (by rw [this]))
theorem ccT0 : tabIn 105 0 7 ccTab = true := by decide
theorem ccT3 : tabIn 105 3 7 ccTab = true := by decide
def OwnP (pb mb : Nat) (s1 s2 si : Slc) (y : Nat) : Prop := y = pb ∨ y = mb ∨ ofS s1 y ∨ ofS s2 y ∨ ofS si y
theorem PB.ge (B : PB H pb mb s1 s2 si lim q) {y : Nat} (h : OwnP pb mb s1 s2 si y) : pb ≤ y ∧ y < H.next := by
 have := B.lt; have := B.mlt
 rcases h with h | h | ⟨a, ha, h⟩ | ⟨a, ha, h⟩ | ⟨a, ha, h⟩
 ·omega
 ·omega
 ·have := B.A1.lt a ha; omega
 ·have := B.A2.lt a ha; omega
 ·have := B.A3.lt a ha; omega
theorem PB.other (B : PB H pb mb s1 s2 si lim q) {y : Nat} {c : List Value} {e : TypeId} {r : Bool} {fz : Nat} (g : H.get y = some (.cells c e r fz)) (h1 : e ≠ 105) (h2 : e ≠ 5) (h3 : e ≠ 57) : ¬ OwnP pb mb s1 s2 si y := by
 rintro (h | h | ⟨a, ha, h⟩ | ⟨a, ha, h⟩ | ⟨a, ha, h⟩)
 ·obtain ⟨p1, p2, gg, _⟩ := B.g
  rw [h, gg] at g; cases g; exact h1 rfl
 ·have gg : H.get mb = some (.map _ _) := B.M
  rw [h, gg] at g; cases g
 ·obtain ⟨cc, gg⟩ := acc_cells B.A1 ha
  rw [h, gg] at g; cases g; exact h2 rfl
 ·obtain ⟨cc, gg⟩ := acc_cells B.A2 ha
  rw [h, gg] at g; cases g; exact h2 rfl
 ·obtain ⟨cc, gg⟩ := accW_cells B.A3 ha
  rw [h, gg] at g; cases g; exact h3 rfl
theorem PB.put1 (B : PB H pb mb s1 s2 si lim q) (D : CallF) (x : ByteArray) (hx : 2 * (q.1.length + x.size) ≤ 281474976710656) :
  Gx.Wp (strings_Builder_WriteString k D (some ⟨pb, 0 + 0 + 0, none⟩) x H) fun z => ∃ s', PB z.2 pb mb s' s2 si lim (q.1 ++ bl x, q.2.1, q.2.2.1, q.2.2.2) ∧ Chg (fun y => y = pb ∨ ofS s1 y) H z.2 := by
 obtain ⟨p1, p2, g, h1, h2⟩ := B.g
 have hm := B.mlt
 refine .mono (wstr (o := 0) D g B.lt rfl h1 rfl ccT0 B.A1 (fun a ha e => by have := (B.A1.lt a ha).2; omega) (by have := B.lt; omega) x hx) fun z ⟨s', g', A', c, d, nx⟩ => ?_
 have d' : ∀ a, s'.a = some a → ∀ b, s2.a = some b → a.block ≠ b.block := fun a ha b hb e => by
  rcases d a ha with w | ⟨a0, w1, w2⟩
  ·have := (B.A2.lt b hb).1; omega
  ·exact B.ap a0 b w1 hb (by rw [← w2, e])
 refine ⟨s', ⟨⟨_, p2, g', .inr rfl, h2⟩, A', B.A2.chg c fun a ha w => ?_, B.A3.chg c fun a ha w => ?_, B.M.chg c hm.2 fun w => ?_, by have := B.lt; omega, by omega, fun a b ha hb => d' a ha b hb⟩, c⟩
 ·rcases w with w | ⟨a0, w1, w2⟩
  ·have := (B.A2.lt a ha).2; omega
  ·exact B.ap a0 a w1 ha w2.symm
 ·rcases w with w | w
  ·have := (B.A3.lt a ha).2; omega
  ·exact B.ne13 B.A1 ha w
 ·rcases w with w | w
  ·omega
  ·exact B.neM B.A1 w
theorem PB.put2 (B : PB H pb mb s1 s2 si lim q) (D : CallF) (x : ByteArray) (hx : 2 * (q.2.1.length + x.size) ≤ 281474976710656) :
  Gx.Wp (strings_Builder_WriteString k D (some ⟨pb, 0 + 3, none⟩) x H) fun z => ∃ s', PB z.2 pb mb s1 s' si lim (q.1, q.2.1 ++ bl x, q.2.2.1, q.2.2.2) ∧ Chg (fun y => y = pb ∨ ofS s2 y) H z.2 := by
 obtain ⟨p1, p2, g, h1, h2⟩ := B.g
 have hm := B.mlt
 refine .mono (wstr (o := 3) D g B.lt rfl h2 rfl ccT3 B.A2 (fun a ha e => by have := (B.A2.lt a ha).2; omega) (by have := B.lt; omega) x hx) fun z ⟨s', g', A', c, d, nx⟩ => ?_
 have d' : ∀ a, s'.a = some a → ∀ b, s1.a = some b → a.block ≠ b.block := fun a ha b hb e => by
  rcases d a ha with w | ⟨a0, w1, w2⟩
  ·have := (B.A1.lt b hb).1; omega
  ·exact B.ap b a0 hb w1 (by rw [← w2, e])
 refine ⟨s', ⟨⟨p1, _, g', h1, .inr rfl⟩, B.A1.chg c fun a ha w => ?_, A', B.A3.chg c fun a ha w => ?_, B.M.chg c hm.2 fun w => ?_, by have := B.lt; omega, by omega, fun a b ha hb e => d' b hb a ha e.symm⟩, c⟩
 ·rcases w with w | ⟨a0, w1, w2⟩
  ·have := (B.A1.lt a ha).2; omega
  ·exact B.ap a a0 ha w1 w2
 ·rcases w with w | w
  ·have := (B.A3.lt a ha).2; omega
  ·exact B.ne13 B.A2 ha w
 ·rcases w with w | w
  ·omega
  ·exact B.neM B.A2 w
def magicB : List UInt8 := [71, 82, 84, 80, 1]
def st0P : PSt := (magicB, [], [], [])
theorem empty_spec (D : CallF) {c : List Value} (g : H.get pb = some (.cells c 105 true 0)) (hl : pb < H.next) {v0 v1 v3 v4 v5 v6 : Value} (hc : c = [v0, v1, .int .i64 lim, v3, v4, v5, v6]) :
  Gx.Wp (pack_Builder_empty k D (some ⟨pb, 0, none⟩) H) fun z => ∃ mb s1, PB z.2 pb mb s1 ⟨none, 0, 0⟩ ⟨none, 0, 0⟩ lim st0P ∧ Chg (· = pb) H z.2 := by
 subst hc
 simp only [pack_Builder_empty, strings_Builder_Reset]
 refine .bnd rfl (.call (P := fun z => z.2.get pb = some (.cells [.pointer none, .slice none 0 0, .int .i64 lim, v3, v4, v5, v6] 105 true 0) ∧ Chg (· = pb) H z.2 ∧ z.2.next = H.next) (.bnd rfl (Wp.st g (by simp) rfl fun h1 c1 n1 g1 => .bnd rfl (Wp.st g1 (by simp) rfl fun h2 c2 n2 g2 => .of ⟨g2, c1.trans c2, by show h2.next = _; omega⟩))) fun r1 ⟨g1, c1, n1⟩ => ?_)
 refine .bnd rfl (.call (P := fun z => z.2.get pb = some (.cells [.pointer none, .slice none 0 0, .int .i64 lim, .pointer none, .slice none 0 0, v5, v6] 105 true 0) ∧ Chg (· = pb) r1.2 z.2 ∧ z.2.next = r1.2.next) (.bnd rfl (Wp.st g1 (by simp) rfl fun h1 c1 n1 g1 => .bnd rfl (Wp.st g1 (by simp) rfl fun h2 c2 n2 g2 => .of ⟨g2, c1.trans c2, by show h2.next = _; omega⟩))) fun r4 ⟨g4, c4, n4⟩ => ?_)
 refine Wp.newE fun h5 e5 k5 n5 g5 => .bnd rfl ?_
 have gp5 := k5.got (show pb < r4.2.next by omega) g4
 refine Wp.st gp5 (by simp) rfl fun h7 c7 n7 g7 => .bnd rfl (Wp.st g7 (by simp) rfl fun h9 c9 n9 g9 => .bnd rfl ?_)
 have cz : Chg (· = pb) H h9 := (((c1.trans c4).trans (Chg.keeps k5)).trans c7).trans c9
 have gm : h9.get r4.2.next = some (.map [] 0) := c9.got (by omega) (show r4.2.next ≠ pb by omega) (c7.got (by omega) (show r4.2.next ≠ pb by omega) g5)
 have B : PB h9 pb r4.2.next ⟨none, 0, 0⟩ ⟨none, 0, 0⟩ ⟨none, 0, 0⟩ lim ([], [], [], []) :=
  ⟨⟨_, _, g9, .inl rfl, .inl rfl⟩, Acc.nil _ _ _ _, Acc.nil _ _ _ _, AccW.nil _ _ _ _ _, gm, by omega, by omega, fun a b ha => by cases ha⟩
 obtain ⟨p1, p2, g, h1, h2⟩ := B.g
 refine .call (P := fun z => ∃ s1, PB z.2 pb r4.2.next s1 ⟨none, 0, 0⟩ ⟨none, 0, 0⟩ lim st0P ∧ Chg (· = pb) H z.2) ?_ fun r11 ⟨s1, B', c'⟩ => .of ⟨_, s1, B', c'⟩
 refine .mono (wstr (o := 0) (s := ⟨none, 0, 0⟩) (l := []) D g B.lt rfl h1 rfl ccT0 B.A1 (fun a ha e => by cases ha) (by omega) ⟨#[71, 82, 84, 80, 1]⟩ (by decide)) fun z ⟨s', g', A', c, d, nx⟩ => ?_
 have c' : Chg (· = pb) h9 z.2 := c.wk fun y _ w => w.elim id fun ⟨a, ha, _⟩ => by cases ha
 refine ⟨s', ⟨⟨_, p2, g', .inr rfl, h2⟩, A', Acc.nil _ _ _ _, AccW.nil _ _ _ _ _, B.M.chg c' B.mlt.2 (by have := B.mlt; omega), by omega, by omega, fun a b ha hb => by cases hb⟩, cz.trans c'⟩
theorem new_spec14 (D : CallF) {h : AHeap} {lim : Int} :
  Gx.Wp (pack_New k D lim h) fun z => Keeps h z.2 ∧ if 64 ≤ lim ∧ lim ≤ 65536 then z.1 = (some ⟨h.next, 0, none⟩, 0) ∧ ∃ mb s1, PB z.2 h.next mb s1 ⟨none, 0, 0⟩ ⟨none, 0, 0⟩ lim st0P else z.1 = (none, 1) := by
 simp only [pack_New]
 refine Wp.jn fun j4 h4 => ?_
 have bad : ∀ y, y = true → ¬ (64 ≤ lim ∧ lim ≤ 65536) → Gx.Wp (j4 lim y h) fun z => Keeps h z.2 ∧ if 64 ≤ lim ∧ lim ≤ 65536 then z.1 = (some ⟨h.next, 0, none⟩, 0) ∧ ∃ mb s1, PB z.2 h.next mb s1 ⟨none, 0, 0⟩ ⟨none, 0, 0⟩ lim st0P else z.1 = (none, 1) := fun y hy hn => by
  rw [h4]
  exact .ifp hy (.of ⟨Chg.refl _ _, by rw [if_neg hn]⟩)
 by_cases c1 : lim < 64
 ·exact .ifp (by simpa using c1) (bad true rfl (by omega))
 refine .ifn (by simpa using c1) ?_
 by_cases c2 : lim > 65536
 ·exact bad _ (by simpa using c2) (by omega)
 rw [h4]
 refine .ifn (by simpa using c2) (Wp.newE fun h5 e5 k5 n5 g5 => .call (empty_spec (lim := lim) D g5 (by omega) rfl) fun r6 ⟨mb, s1, B, c⟩ => .of ⟨k5.keepsS c fun y hy => by have hy : y = h.next := hy; omega, ?_⟩)
 rw [if_pos (by omega)]
 exact ⟨rfl, mb, s1, B⟩
end
end Ge
