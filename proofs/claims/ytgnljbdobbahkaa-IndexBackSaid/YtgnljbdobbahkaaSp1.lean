import Derived.Sort.Walk0
import Derived.Test.YtgnljbdobbahkaaFn1
namespace Gc
open Go Gx
theorem less_eq (a b : ByteArray) : Op.bytesLess a.toList b.toList = decide (bl a < bl b) := by
 rw [Go.Proofs.bytesLess_eq, ByteArray.toList_eq, ByteArray.toList_eq]; rfl
theorem beq_ba (a b : ByteArray) : (a == b) = decide (a = b) := by
 have e : (a == b) = (a.data == b.data) := rfl
 rw [e]
 by_cases h : a = b
 ·subst h; simp
 ·have : ¬ a.data = b.data := fun e => h (by cases a; cases b; simp at e; rw [e])
  simp [h, this]
abbrev It := ByteArray × ByteArray × Int × Int × Int × Int
def itC (x : It) : List Value := [.string x.1, .string x.2.1, .int .i64 x.2.2.1, .int .i64 x.2.2.2.1, .int .i64 x.2.2.2.2.1, .int .i64 x.2.2.2.2.2]
theorem itC_len (x : It) : (itC x).length = 6 := rfl
theorem itC_one (x : It) : allOne (itC x) = true := rfl
def cmpB (a b : ByteArray) : Int := if bl a < bl b then -1 else if a = b then 0 else 1
def cmpI (a b : Int) : Int := if a < b then -1 else if a = b then 0 else 1
def orL : List Int → Int
 | [] => 0
 | c :: l => if c ≠ 0 then c else orL l
def ordL (x y : It) : List Int := [cmpB x.1 y.1, cmpB x.2.1 y.2.1, cmpI x.2.2.2.1 y.2.2.2.1, cmpI x.2.2.2.2.1 y.2.2.2.2.1, cmpI x.2.2.2.2.2 y.2.2.2.2.2, cmpI x.2.2.1 y.2.2.1]
def ord (x y : It) : Int := orL (ordL x y)
def lessI (x y : It) : Bool := decide (ord x y < 0)
section
variable (k : Nat) (D : CallF)
theorem cmpS_spec (a b : ByteArray) (h : AHeap) : cmp_Compare_string k D a b h = some (cmpB a b, h) := by
 simp only [cmp_Compare_string, cmp_isNaN_string, Option.bind_some, beq_ba, less_eq, cmpB]
 by_cases c : bl a < bl b
 ·simp [c]
 ·by_cases e : a = b
  ·simp [e, List.lt_irrefl]
  ·simp [c, e]
theorem cmpN_spec (a b : Int) (h : AHeap) : cmp_Compare_int k D a b h = some (cmpI a b, h) := by
 simp only [cmp_Compare_int, cmp_isNaN_int, Option.bind_some, cmpI]
 by_cases c : a < b
 ·simp [c]
 ·by_cases e : a = b
  ·simp [e]
  ·have : b < a := by omega
   simp [c, e, this]
theorem or_spec {k : Nat} (hk : 100 ≤ k) {h : AHeap} {s : Slc} {xs : List Int} (R : Row encI h s xs) (hl : xs.length < 90) : cmp_Or_int k D s h = some (orL xs, h) := by
 simp only [cmp_Or_int]
 refine jn ?_
 unfold cmp_Or_int_l0
 generalize hj : (fun (zero1 : Int) (h2 : AHeap) => some (zero1, h2)) = j
 obtain ⟨bot, eb⟩ := iterK_of (fun _ _ _ _ _ => none) (cmp_Or_int_l0b k D j) (show xs.length + 1 ≤ k by omega)
 rw [eb]
 have loop : ∀ (d i : Nat), i + d = xs.length → iterK bot (d + 1) (cmp_Or_int_l0b k D j) 0 s (s.len : Int) (i : Int) h = some (orL (xs.drop i), h) := fun d => by
  induction d with
  | zero =>
   intro i hd
   obtain rfl : i = xs.length := by omega
   rw [iterK_s, List.drop_length]; simp only [cmp_Or_int_l0b]
   subst hj
   exact ifn (by rw [R.1]; simp) rfl
  | succ d ih =>
   intro i hd
   rw [iterK_s]; simp only [cmp_Or_int_l0b]
   obtain ⟨x, hx⟩ := isome (l := xs) (i := i) (by omega)
   obtain ⟨p, b1, b2⟩ := R.ldI hx
   refine ifp (by rw [R.1]; simp; omega) (bnd b1 (bnd b2 ?_))
   rw [dropc hx]
   by_cases c : x = 0
   ·refine ifn (by simp [c]) ?_
    rw [Gx.w1 (by omega), ih (i + 1) (by omega)]
    simp [orL, c]
   ·exact ifp (by simp [c]) (by simp [orL, c])
 exact loop xs.length 0 (by omega)
theorem ssw {hs : List AHeap} {H : AHeap} {F : AHeap → Option Value} {v : Value} (hh : ∀ x ∈ hs, x = H) (h : F H = some v) : SameW hs F v := fun x hx => by rw [hh x hx]; exact h
theorem order_spec {k : Nat} (hk : 100 ≤ k) (x y : It) (h : AHeap) : Gx.Wp (lookup_order k D x y h) fun z => z.1 = ord x y ∧ Keeps h z.2 := by
 simp only [lookup_order]
 refine Wp.newE fun H1 e1 k1 n1 g1 => Wp.newE fun H2 e2 k2 n2 g2 => ?_
 have gx : H2.get h.next = some (.cells (itC x) 57 true 0) := k2.got (by omega) g1
 have gy : H2.get H1.next = some (.cells (itC y) 57 true 0) := g2
 have lS : ∀ {b o : Nat} {c : List Value} {t : ByteArray}, H2.get b = some (.cells c 57 true 0) → c[o]? = some (.string t) → ldS ⟨b, o, none⟩ H2 = some t := fun hb hc => by simp [ldS, AHeap.rd1, hb, hc, decS]
 have lI : ∀ {b o : Nat} {c : List Value} {t : Int}, H2.get b = some (.cells c 57 true 0) → c[o]? = some (.int .i64 t) → ldI .i64 ⟨b, o, none⟩ H2 = some t := fun hb hc => sldI_at hb hc
 have x1 := lS (o := 0) gx rfl; have x2 := lS (o := 1) gx rfl; have x3 := lI (o := 3) gx rfl; have x4 := lI (o := 4) gx rfl; have x5 := lI (o := 5) gx rfl; have x6 := lI (o := 2) gx rfl
 have y1 := lS (o := 0) gy rfl; have y2 := lS (o := 1) gy rfl; have y3 := lI (o := 3) gy rfl; have y4 := lI (o := 4) gy rfl; have y5 := lI (o := 5) gy rfl; have y6 := lI (o := 2) gy rfl
 refine .bnd x1 (.bnd y1 (.bnd (cmpS_spec k D _ _ _) ?_))
 refine .bnd x2 (.gp (ssw (H := H2) (by simp) (by rw [x2]; rfl)) (.bnd y2 (.gp (ssw (H := H2) (by simp) (by rw [y2]; rfl)) (.bnd (cmpS_spec k D _ _ _) ?_))))
 refine .bnd x3 (.gp (ssw (H := H2) (by simp) (by rw [x3]; rfl)) (.bnd y3 (.gp (ssw (H := H2) (by simp) (by rw [y3]; rfl)) (.bnd (cmpN_spec k D _ _ _) ?_))))
 refine .bnd x4 (.gp (ssw (H := H2) (by simp) (by rw [x4]; rfl)) (.bnd y4 (.gp (ssw (H := H2) (by simp) (by rw [y4]; rfl)) (.bnd (cmpN_spec k D _ _ _) ?_))))
 refine .bnd x5 (.gp (ssw (H := H2) (by simp) (by rw [x5]; rfl)) (.bnd y5 (.gp (ssw (H := H2) (by simp) (by rw [y5]; rfl)) (.bnd (cmpN_spec k D _ _ _) ?_))))
 refine .bnd x6 (.gp (ssw (H := H2) (by simp) (by rw [x6]; rfl)) (.bnd y6 (.gp (ssw (H := H2) (by simp) (by rw [y6]; rfl)) (.bnd (cmpN_spec k D _ _ _) ?_))))
 refine Wp.newE fun H3 e3 k3 n3 g3 => ?_
 have R : Row encI H3 (⟨some ⟨H2.next, 0, some 0⟩, 6, 6⟩ : Slc) (ordL x y) := Row.of_block (xs := ordL x y) (o := 0) g3 (by rw [n3]; exact Nat.lt_succ_self H2.next) fun i z hz => by
  match i with
  | 0 => cases hz; rfl
  | 1 => cases hz; rfl
  | 2 => cases hz; rfl
  | 3 => cases hz; rfl
  | 4 => cases hz; rfl
  | 5 => cases hz; rfl
  | i + 6 => simp [ordL] at hz
 exact .bnd (or_spec D hk R (by simp [ordL])) (.of ⟨rfl, (k1.trans k2).trans k3⟩)
theorem decI6 (x : It) : decC [.s, .s, .i .i64, .i .i64, .i .i64, .i .i64] (itC x) = some x := rfl
theorem less_spec {k : Nat} (hk : 100 ≤ k) (x y : It) (h : AHeap) : Gx.Wp (lookup_Less k D x y h) fun z => z.1 = lessI x y ∧ Keeps h z.2 := by
 simp only [lookup_Less]
 refine Wp.newE fun H1 e1 k1 n1 g1 => Wp.newE fun H2 e2 k2 n2 g2 => ?_
 have gx : H2.get h.next = some (.cells (itC x) 57 true 0) := k2.got (by omega) g1
 refine .bnd (sldA_at gx rfl) (.bnd (decI6 x) (.bnd (sldA_at g2 rfl) (.bnd (decI6 y) (.call (order_spec D hk x y H2) fun r ⟨q1, q2⟩ => .of ⟨?_, (k1.trans k2).trans q2⟩))))
 show decide (r.1 < 0) = _
 rw [q1]; rfl
end
end Gc
namespace Gc
open Go Gx
def okI (x : It) : Prop := x.1.size = 32 ∧ x.2.1.size = 32 ∧ (x.2.2.1 = 1 ∨ x.2.2.1 = 2) ∧ (0 ≤ x.2.2.2.1 ∧ x.2.2.2.1 ≤ 65536) ∧ (1 ≤ x.2.2.2.2.1 ∧ x.2.2.2.2.1 ≤ 65536) ∧ (0 ≤ x.2.2.2.2.2 ∧ x.2.2.2.2.2 ≤ 65536)
instance (x : It) : Decidable (okI x) := by unfold okI; exact inferInstance
def chkI (x : It) : Int := if okI x then 0 else 1
section
variable (k : Nat) (D : CallF)
theorem within_spec (n l : Int) (h : AHeap) : lookup_within k D n l h = some (decide (l ≤ n ∧ n ≤ 65536), h) := by
 simp only [lookup_within]
 by_cases c : l ≤ n
 ·simp [c]
 ·simp [c]
theorem check_spec (x : It) (h : AHeap) : Gx.Wp (lookup_Check k D x h) fun z => z.1 = chkI x ∧ Keeps h z.2 := by
 simp only [lookup_Check]
 refine Wp.newE fun H1 e1 k1 n1 g1 => Wp.jn fun j5 h5 => ?_
 have gx : H1.get h.next = some (.cells (itC x) 57 true 0) := g1
 have lS : ∀ {o : Nat} {t : ByteArray}, (itC x)[o]? = some (.string t) → ldS ⟨h.next, o, none⟩ H1 = some t := fun hc => by simp [ldS, AHeap.rd1, gx, hc, decS]
 have lI : ∀ {o : Nat} {t : Int}, (itC x)[o]? = some (.int .i64 t) → ldI .i64 ⟨h.next, o, none⟩ H1 = some t := fun hc => sldI_at gx hc
 have J : ∀ kd : Bool, (kd = true ↔ (x.2.2.1 = 1 ∨ x.2.2.1 = 2)) → Gx.Wp (j5 (some ⟨h.next, 0, none⟩) kd H1) fun z => z.1 = chkI x ∧ Keeps h z.2 := by
  intro kd hkd
  rw [h5]
  refine Wp.jn fun j8 h8 => ?_
  have j8t : ¬ okI x → Gx.Wp (j8 true H1) fun z => z.1 = chkI x ∧ Keeps h z.2 := fun hn => by rw [h8]; exact .of ⟨by simp [chkI, hn], k1⟩
  have j8f : okI x → Gx.Wp (j8 false H1) fun z => z.1 = chkI x ∧ Keeps h z.2 := fun hn => by rw [h8]; exact .of ⟨by simp [chkI, hn], k1⟩
  refine .bnd rfl (.bnd (lS (o := 0) rfl) (.bnd rfl ?_))
  by_cases c1 : x.1.size = 32
  rotate_left
  ·exact .ifp (by simp; omega) (j8t fun q => c1 q.1)
  refine .ifn (by simp [c1]) (.bnd rfl (.bnd (lS (o := 1) rfl) (.bnd rfl ?_)))
  by_cases c2 : x.2.1.size = 32
  rotate_left
  ·exact .ifp (by simp; omega) (j8t fun q => c2 q.2.1)
  refine .ifn (by simp [c2]) ?_
  by_cases c3 : kd = true
  rotate_left
  ·exact .ifp (by simpa using c3) (j8t fun q => c3 (hkd.2 q.2.2.1))
  refine .ifn (by simp [c3]) (.bnd rfl (.bnd (lI (o := 3) rfl) (.bnd (within_spec k D _ _ _) ?_)))
  by_cases c4 : 0 ≤ x.2.2.2.1 ∧ x.2.2.2.1 ≤ 65536
  rotate_left
  ·exact .ifp (by simp only [c4, decide_false, Bool.not_false]) (j8t fun q => c4 q.2.2.2.1)
  refine .ifn (by simp [c4]) (.bnd rfl (.bnd (lI (o := 4) rfl) (.bnd (within_spec k D _ _ _) ?_)))
  by_cases c5 : 1 ≤ x.2.2.2.2.1 ∧ x.2.2.2.2.1 ≤ 65536
  rotate_left
  ·exact .ifp (by simp only [c5, decide_false, Bool.not_false]) (j8t fun q => c5 q.2.2.2.2.1)
  refine .ifn (by simp [c5]) (.bnd rfl (.bnd (lI (o := 5) rfl) (.bnd (within_spec k D _ _ _) ?_)))
  by_cases c6 : 0 ≤ x.2.2.2.2.2 ∧ x.2.2.2.2.2 ≤ 65536
  ·simp only [c6, and_self, decide_true, Bool.not_true]
   exact j8f ⟨c1, c2, hkd.1 c3, c4, c5, c6⟩
  ·simp only [c6, decide_false, Bool.not_false]
   exact j8t fun q => c6 q.2.2.2.2.2
 refine .bnd (lI (o := 2) rfl) ?_
 by_cases c : x.2.2.1 = 1
 ·exact .ifp (by simpa using c) (J true (by simp [c]))
 ·exact .ifn (by simpa using c) (.bnd (lI (o := 2) rfl) (J _ (by simp [c])))
def rlessI (x y : It) : Bool :=
 if x.1 ≠ y.1 then decide (bl x.1 < bl y.1) else if x.2.1 ≠ y.2.1 then decide (bl x.2.1 < bl y.2.1) else
 if x.2.2.2.1 ≠ y.2.2.2.1 then decide (x.2.2.2.1 < y.2.2.2.1) else if x.2.2.2.2.1 ≠ y.2.2.2.2.1 then decide (x.2.2.2.2.1 < y.2.2.2.2.1) else
 if x.2.2.2.2.2 ≠ y.2.2.2.2.2 then decide (x.2.2.2.2.2 < y.2.2.2.2.2) else decide (x.2.2.1 < y.2.2.1)
theorem cmpB_zero {a b : ByteArray} : cmpB a b = 0 ↔ a = b := by
 unfold cmpB
 by_cases c : bl a < bl b
 ·simp only [c, if_true]
  constructor
  ·intro h; omega
  ·rintro rfl; exact absurd c (List.lt_irrefl _)
 ·by_cases e : a = b <;> simp [c, e]
theorem cmpB_neg {a b : ByteArray} : cmpB a b < 0 ↔ bl a < bl b := by
 unfold cmpB
 by_cases c : bl a < bl b
 ·simp [c]
 ·by_cases e : a = b
  ·subst e; simp [List.lt_irrefl]
  ·simp [c, e]
theorem cmpI_zero {a b : Int} : cmpI a b = 0 ↔ a = b := by
 unfold cmpI
 by_cases c : a < b
 ·simp [c]; omega
 ·by_cases e : a = b <;> simp [c, e]
theorem cmpI_neg {a b : Int} : cmpI a b < 0 ↔ a < b := by
 unfold cmpI
 by_cases c : a < b
 ·simp [c]
 ·by_cases e : a = b <;> simp [c, e]
theorem less_same (x y : It) : lessI x y = rlessI x y := by
 unfold lessI rlessI ord ordL
 simp only [orL, ne_eq, cmpB_zero, cmpI_zero]
 by_cases c1 : x.1 = y.1
 rotate_left
 ·simp [c1, cmpB_neg]
 by_cases c2 : x.2.1 = y.2.1
 rotate_left
 ·simp [c1, c2, cmpB_neg]
 by_cases c3 : x.2.2.2.1 = y.2.2.2.1
 rotate_left
 ·simp [c1, c2, c3, cmpI_neg]
 by_cases c4 : x.2.2.2.2.1 = y.2.2.2.2.1
 rotate_left
 ·simp [c1, c2, c3, c4, cmpI_neg]
 by_cases c5 : x.2.2.2.2.2 = y.2.2.2.2.2
 rotate_left
 ·simp [c1, c2, c3, c4, c5, cmpI_neg]
 by_cases c6 : x.2.2.1 = y.2.2.1
 rotate_left
 ·simp [c1, c2, c3, c4, c5, c6, cmpI_neg]
 ·simp [c1, c2, c3, c4, c5, c6]
end
end Gc
namespace Gc
open Go Gx
noncomputable def DD (k : Nat) : CallF := mkC noC [e_lookup_order k noC, e_lookup_Table_Places_1 k noC, e_lookup_Table_Drop_1 k noC, e_cmp_Less_string k noC, e_lookup_Less k noC, e_index_Decode_1 k noC, e_index_item k noC]
theorem DD_sound (k : Nat) : CSound Go.Proofs.Try.prog 0 (DD k) :=
 mkC_sound noC_sound (EntsOk.more (ok_lookup_order noC_sound k) (EntsOk.more (ok_lookup_Table_Places_1 noC_sound k) (EntsOk.more (ok_lookup_Table_Drop_1 noC_sound k) (EntsOk.more (ok_cmp_Less_string noC_sound k) (EntsOk.more (ok_lookup_Less noC_sound k) (EntsOk.more (ok_index_Decode_1 noC_sound k) (EntsOk.more (ok_index_item noC_sound k) EntsOk.none)))))))
theorem dd_order {R : Type} {Q : R → Prop} {k : Nat} (hk : 100 ≤ k) {x y : It} {h : AHeap} {κ : Value → AHeap → Option R} {C : CallF} (hC : C = DD k) (kt : ∀ h', Keeps h h' → Gx.Wp (κ (.int .i64 (ord x y)) h') Q) :
  Gx.Wp (callD C (.func (.func 78) ⟨[]⟩ ⟨[]⟩) [.agg ⟨itC x⟩, .agg ⟨itC y⟩] h κ) Q := by
 subst hC
 show Gx.Wp ((lookup_order k noC x y h).bind fun r => κ (.int .i64 r.1) r.2) Q
 refine .call (order_spec noC hk x y h) fun r ⟨q1, q2⟩ => ?_
 rw [q1]; exact kt _ q2
section
variable {k : Nat} {h : AHeap} {s : Slc} {xs : List It}
theorem half {i j : Nat} (hi : i < j) (hj : j ≤ 1000000000) : IntKind.wrap .i64 (Int.fdiv (IntKind.wrap .u64 (IntKind.wrap .i64 ((i : Int) + (j : Int)))) 2) = (((i + j) / 2 : Nat) : Int) := by
 have e1 : IntKind.wrap .i64 ((i : Int) + (j : Int)) = ((i + j : Nat) : Int) := by rw [Gx.w64 _ (by omega)]; omega
 have e2 : IntKind.wrap .u64 ((i + j : Nat) : Int) = ((i + j : Nat) : Int) := Gx.wr_u64 _ (by omega) (by omega)
 rw [e1, e2, Int.fdiv_eq_ediv_of_nonneg _ (by omega), Gx.w64 _ (by omega)]
 omega
theorem search_spec (hk : 100 ≤ k) (hkx : xs.length + 10 ≤ k) (R : RowW 6 itC h s xs) (hl : xs.length ≤ 1000000000) (x : It) {p : Nat} (hp : p ≤ xs.length) (h1 : ∀ i y, i < p → xs[i]? = some y → ord y x < 0) (h2 : ∀ i y, p ≤ i → xs[i]? = some y → ¬ ord y x < 0) :
  Gx.Wp (slices_BinarySearchFunc_api_Item_api_Item_api_Item k (DD k) s x (.func (.func 78) ⟨[]⟩ ⟨[]⟩) h) fun z => z.1.1 = (p : Int) ∧ (z.1.2 = true ↔ ∃ y, xs[p]? = some y ∧ ord y x = 0) ∧ Keeps h z.2 := by
 simp only [slices_BinarySearchFunc_api_Item_api_Item_api_Item]
 refine Wp.newE fun H1 e1 k1 n1 g1 => Wp.jn fun j8 hj => ?_
 unfold slices_BinarySearchFunc_api_Item_api_Item_api_Item_l0
 obtain ⟨bot, eb⟩ := iterK_of (fun _ _ _ _ _ _ _ => none) (slices_BinarySearchFunc_api_Item_api_Item_api_Item_l0b k (DD k) j8) (show xs.length + 1 ≤ k by omega)
 rw [eb]
 have loop : ∀ (d i j : Nat) (H : AHeap), j - i ≤ d → i ≤ p → p ≤ j → j ≤ xs.length → Keeps H1 H →
   Gx.Wp (iterK bot (d + 1) (slices_BinarySearchFunc_api_Item_api_Item_api_Item_l0b k (DD k) j8) s (.func (.func 78) ⟨[]⟩ ⟨[]⟩) (some ⟨h.next, 0, none⟩) (s.len : Int) (i : Int) (j : Int) H) fun z => z.1.1 = (p : Int) ∧ (z.1.2 = true ↔ ∃ y, xs[p]? = some y ∧ ord y x = 0) ∧ Keeps h z.2 := fun d => by
  induction d with
  | zero =>
   intro i j H hd hi hj' hjl kp
   obtain rfl : i = p := by omega
   obtain rfl : j = i := by omega
   rw [iterK_s]; simp only [slices_BinarySearchFunc_api_Item_api_Item_api_Item_l0b]
   refine .ifn (by simp) ?_
   rw [hj]
   by_cases c : j < xs.length
   ·obtain ⟨y, hy⟩ := isome c
    obtain ⟨q, b1, b2, _⟩ := (R.keeps (k1.trans kp)).ld itC_len (by decide) hy
    have gt := kp.got (by omega) g1
    refine .ifp (by rw [R.len]; simp; omega) (.bnd b1 (.bnd b2 (.bnd (decI6 y) (.bnd rfl (.bnd (sldA_at gt rfl) (.bnd (decI6 x) (dd_order (x := y) (y := x) hk rfl fun h' k' => .bnd rfl (.of ⟨rfl, ?_, (k1.trans kp).trans k'⟩))))))))
    simp [hy]
   ·refine .ifn (by rw [R.len]; simp; omega) (.of ⟨rfl, ?_, k1.trans kp⟩)
    simp only [Bool.false_eq_true, false_iff, not_exists, not_and]
    intro y hy
    rw [List.getElem?_eq_none (by omega)] at hy; cases hy
  | succ d ih =>
   intro i j H hd hi hj' hjl kp
   rw [iterK_s]; simp only [slices_BinarySearchFunc_api_Item_api_Item_api_Item_l0b]
   by_cases c : i < j
   ·obtain ⟨y, hy⟩ := isome (l := xs) (i := (i + j) / 2) (by omega)
    obtain ⟨q, b1, b2, _⟩ := (R.keeps (k1.trans kp)).ld itC_len (by decide) hy
    have gt := kp.got (by omega) g1
    refine .ifp (by simp; omega) ?_
    rw [half c (by omega)]
    refine .bnd b1 (.bnd b2 (.bnd (decI6 y) (.bnd rfl (.bnd (sldA_at gt rfl) (.bnd (decI6 x) (dd_order (x := y) (y := x) hk rfl fun h' k' => .bnd rfl ?_))))))
    by_cases c2 : ord y x < 0
    ·refine .ifp (by simpa using c2) ?_
     rw [Gx.w1 (by omega)]
     refine ih _ j h' (by omega) ?_ hj' hjl (kp.trans k')
     rcases Nat.lt_or_ge ((i + j) / 2) p with g | g
     ·exact g
     ·exact absurd c2 (h2 _ y g hy)
    ·refine .ifn (by simpa using c2) ?_
     refine ih i _ h' (by omega) hi ?_ (by omega) (kp.trans k')
     rcases Nat.lt_or_ge ((i + j) / 2) p with g | g
     ·exact absurd (h1 _ y g hy) c2
     ·exact g
   ·have := ih i j H (by omega) hi hj' hjl kp
    cases d with
    | zero =>
     rw [iterK_s] at this; simp only [slices_BinarySearchFunc_api_Item_api_Item_api_Item_l0b] at this
     rw [if_neg (by simp; omega)] at this ⊢
     exact this
    | succ d =>
     rw [iterK_s] at this; simp only [slices_BinarySearchFunc_api_Item_api_Item_api_Item_l0b] at this
     rw [if_neg (by simp; omega)] at this ⊢
     exact this
 have := loop xs.length 0 xs.length H1 (by omega) (by omega) hp (Nat.le_refl _) (.refl _ _)
 have e : ((xs.length : Nat) : Int) = (s.len : Int) := by rw [R.len]
 rw [e] at this
 exact this
end
end Gc
namespace Gc
open Go Gx
structure SlotB (base : Nat) (h : AHeap) (tb b : Nat) (sp : Option Nat) (cap : Nat) (R : List Value) (s : Slc) (xs : List It) : Prop where
 s : s = ⟨some ⟨b, 0, sp⟩, xs.length, cap⟩
 blk : h.get b = some (.cells (xs.flatMap itC ++ R) 57 true 0)
 one : allOne R = true
 ge : base ≤ b
 lt : b < h.next
 ne : b ≠ tb
 le : xs.length ≤ cap
 room : cap * 6 ≤ xs.length * 6 + R.length
 sp : (sp = some 7 ∧ cap ≠ 0) ∨ (sp = some 0 ∧ cap = 0)
def SlotR (base : Nat) (h : AHeap) (tb : Nat) (s : Slc) (xs : List It) : Prop := (s = ⟨none, 0, 0⟩ ∧ xs = []) ∨ ∃ b sp cap R, SlotB base h tb b sp cap R s xs
section
variable {base tb : Nat} {h h' : AHeap} {s : Slc} {xs : List It}
theorem SlotR.chg {S : Nat → Prop} (A : SlotR base h tb s xs) (c : Chg S h h') (hs : ∀ a, s.a = some a → ¬ S a.block) : SlotR base h' tb s xs := by
 rcases A with A | ⟨b, sp, cap, R, A⟩
 ·exact .inl A
 ·exact .inr ⟨b, sp, cap, R, A.s, (c.oth b A.lt (hs ⟨b, 0, sp⟩ (by rw [A.s]))).trans A.blk, A.one, A.ge, Nat.lt_of_lt_of_le A.lt c.nx, A.ne, A.le, A.room, A.sp⟩
theorem SlotR.keeps (A : SlotR base h tb s xs) (c : Keeps h h') : SlotR base h' tb s xs := A.chg c fun _ _ f => f
theorem SlotR.len (A : SlotR base h tb s xs) : s.len = xs.length := by
 rcases A with ⟨rfl, rfl⟩ | ⟨b, sp, cap, R, A⟩
 ·rfl
 ·rw [A.s]
theorem flat_get {ys : List It} {R : List Value} {i : Nat} {x : It} (hx : ys[i]? = some x) (j : Nat) (v : Value) (hv : (itC x)[j]? = some v) : (ys.flatMap itC ++ R)[i * 6 + j]? = some v := by
 have := flatW_get itC_len hx j v hv
 rw [List.getElem?_append_left (List.getElem?_eq_some_iff.1 this).1]; exact this
theorem SlotR.row (A : SlotR base h tb s xs) : RowW 6 itC h s xs := by
 rcases A with ⟨rfl, rfl⟩ | ⟨b, sp, cap, R, A⟩
 ·exact RowW.nil _ _ _ _ _
 ·rw [A.s]
  exact ⟨rfl, fun i x hx => ⟨_, _, _, _, _, rfl, A.lt, A.blk, fun j v hv => by rw [Nat.zero_add]; exact flat_get hx j v hv⟩⟩
theorem SlotR.own (A : SlotR base h tb s xs) : ∀ a, s.a = some a → base ≤ a.block ∧ a.block < h.next ∧ a.block ≠ tb := by
 rcases A with ⟨rfl, rfl⟩ | ⟨b, sp, cap, R, A⟩
 ·intro a ha; cases ha
 ·intro a ha; rw [A.s] at ha; cases ha; exact ⟨A.ge, A.lt, A.ne⟩
theorem flat_len (ys : List It) : (ys.flatMap itC).length = ys.length * 6 := flatW_length itC_len ys
theorem flat_take (ys : List It) : ∀ p, (ys.flatMap itC).take (p * 6) = (ys.take p).flatMap itC
 | 0 => by simp
 | p + 1 => by
  cases ys with
  | nil => simp
  | cons y ys =>
   have e : (p + 1) * 6 = (itC y).length + p * 6 := by rw [itC_len]; omega
   rw [List.flatMap_cons, e, List.take_length_add_append, flat_take ys p]
   simp
theorem flat_drop (ys : List It) : ∀ p, (ys.flatMap itC).drop (p * 6) = (ys.drop p).flatMap itC
 | 0 => by simp
 | p + 1 => by
  cases ys with
  | nil => simp
  | cons y ys =>
   have e : (p + 1) * 6 = (itC y).length + p * 6 := by rw [itC_len]; omega
   rw [List.flatMap_cons, e, List.drop_length_add_append, flat_drop ys p]
   simp
theorem flat_one (ys : List It) : allOne (ys.flatMap itC) = true := flatW_one itC_one ys
theorem ins_spec (k : Nat) (D : CallF) (A : SlotR base h tb s xs) (hb : base ≤ h.next) (htb : tb < h.next) (x : It) {p : Nat} (hp : p ≤ xs.length) (hl : xs.length ≤ 1000000000) {vb : Nat} (hv : h.get vb = some (.cells (itC x) 57 true 0)) (_hvl : vb < h.next) (hne : ∀ a, s.a = some a → a.block ≠ vb) :
  ∃ s' h', slices_Insert_api_Item_api_Item k D s (p : Int) ⟨some ⟨vb, 0, some 0⟩, 1, 1⟩ h = some (s', h') ∧ SlotR base h' tb s' (xs.take p ++ x :: xs.drop p) ∧ Chg (ofS s) h h' ∧ ∀ a, s'.a = some a → h.next ≤ a.block ∨ ∃ b, s.a = some b ∧ b.block = a.block := by
 have er : rdS 6 (⟨some ⟨vb, 0, some 0⟩, 1, 1⟩ : Slc) h = some (itC x) := by
  simp only [rdS]
  rw [rdL_ok hv (by simp [itC])]
  rfl
 have F : slices_Insert_api_Item_api_Item0 k D = insF 6 64 57 [.string ⟨#[]⟩, .string ⟨#[]⟩, .int .i64 0, .int .i64 0, .int .i64 0, .int .i64 0] := f_slices_Insert_api_Item_api_Item0 k D
 simp only [slices_Insert_api_Item_api_Item]
 rw [F]
 rcases A with ⟨rfl, rfl⟩ | ⟨b, sp, cap, R, A⟩
 ·have hp0 : p = 0 := by simpa using hp
  subst hp0
  have e0 : insOk 6 64 57 (⟨none, 0, 0⟩ : Slc) ((0 : Nat) : Int) (⟨some ⟨vb, 0, some 0⟩, 1, 1⟩ : Slc) h = none := rfl
  refine ⟨⟨some ⟨h.next, 0, some 7⟩, 1, 1⟩, h.new (.cells (itC x) 57 true 0), ?_, .inr ⟨h.next, some 7, 1, [], by simp, by simp, rfl, hb, by simp, by omega, by simp, by simp, .inl ⟨rfl, by decide⟩⟩, Chg.new _ _, fun a ha => by cases ha; exact .inl (Nat.le_refl _)⟩
  unfold insA
  rw [e0]
  unfold insF
  have e1 : Gx.subL 6 (⟨none, 0, 0⟩ : Slc) (some ((0 : Nat) : Int)) none none = some ⟨none, 0, 0⟩ := rfl
  rw [e1, Option.bind_some, if_neg (by simp), if_pos (by simp), er, Option.bind_some]
  rfl
 ·have hs := A.s
  by_cases hpe : p = xs.length
  ·-- behind all
   subst hpe
   have e0 : insOk 6 64 57 s ((xs.length : Nat) : Int) (⟨some ⟨vb, 0, some 0⟩, 1, 1⟩ : Slc) h = none := by
    rw [hs]
    unfold insOk
    simp only [A.blk, hv]
    rw [if_neg]
    intro q
    have := q.2.2.2.2.2.2.1
    omega
   have e1 : Gx.subL 6 s (some ((xs.length : Nat) : Int)) none none ≠ none := by
    rw [hs]
    have hsp : spOk sp 6 = true := by rcases A.sp with ⟨rfl, _⟩ | ⟨rfl, _⟩ <;> rfl
    have := A.le
    simp only [Gx.subL, Option.getD_none, Option.getD_some, hsp, if_true]
    rw [if_pos (by omega)]
    simp
   obtain ⟨t1, e1⟩ := Option.ne_none_iff_exists'.1 e1
   rw [List.take_length, List.drop_length]
   have run : ∀ {s' : Slc} {h' : AHeap}, appendA 6 64 57 h s (itC x) 1 = some (s', h') → insA 6 64 57 (insF 6 64 57 [.string ⟨#[]⟩, .string ⟨#[]⟩, .int .i64 0, .int .i64 0, .int .i64 0, .int .i64 0]) s ((xs.length : Nat) : Int) ⟨some ⟨vb, 0, some 0⟩, 1, 1⟩ h = some (s', h') := fun ea => by
    unfold insA
    rw [e0]
    unfold insF
    rw [e1, Option.bind_some, if_neg (by simp), if_pos (by rw [hs]; simp), er, Option.bind_some, ea]
    rfl
   have efl : (xs ++ [x]).flatMap itC = xs.flatMap itC ++ itC x := by simp
   by_cases hroom : xs.length + 1 ≤ cap
   ·-- in place
    have hRl : 6 ≤ R.length := by have := A.room; omega
    have hw : h.wrL b (xs.length * 6) (itC x) = some (h.set b (.cells (splice (xs.flatMap itC ++ R) (xs.length * 6) (itC x)) 57 true 0)) :=
     wrL_ok A.blk (by rw [List.length_append, flat_len, itC_len]; omega) rfl (by simp [itC])
    have esp : splice (xs.flatMap itC ++ R) (xs.length * 6) (itC x) = (xs ++ [x]).flatMap itC ++ R.drop 6 := by
     unfold splice
     rw [itC_len, ← flat_len xs, List.take_left, List.drop_append, List.drop_of_length_le (by omega), efl]
     simp
    refine ⟨⟨some ⟨b, 0, sp⟩, xs.length + 1, cap⟩, h.set b (.cells ((xs ++ [x]).flatMap itC ++ R.drop 6) 57 true 0), run ?_, .inr ⟨b, sp, cap, R.drop 6, by simp, by simp, ?_, A.ge, by simpa using A.lt, A.ne, by simp; omega, ?_, A.sp⟩, Chg.set (.inr ⟨⟨b, 0, sp⟩, by rw [hs], rfl⟩), fun a ha => by cases ha; exact .inr ⟨⟨b, 0, sp⟩, by rw [hs], rfl⟩⟩
    ·rw [hs]
     unfold appendA
     simp only
     rw [if_pos (by omega), if_neg (by decide), Nat.zero_add, hw, esp]
     rfl
    ·exact allOne_sub A.one fun v hv => List.mem_of_mem_drop hv
    ·rw [List.length_drop]; have := A.room; simp; omega
   ·-- elsewhere
    have hcap : cap = xs.length := by have := A.le; omega
    refine ⟨⟨some ⟨h.next, 0, some 7⟩, xs.length + 1, xs.length + 1⟩, (if cap = 0 then h else h.kill b).new (.cells ((xs ++ [x]).flatMap itC) 57 true 0), run ?_, .inr ⟨h.next, some 7, xs.length + 1, [], by simp, ?_, rfl, hb, ?_, by omega, by simp, by simp, .inl ⟨rfl, by omega⟩⟩, ?_, fun a ha => by cases ha; exact .inl (Nat.le_refl _)⟩
    ·rw [hs]
     unfold appendA
     simp only
     rw [if_neg (by omega), if_pos (by omega)]
     rcases A.sp with ⟨rfl, h0⟩ | ⟨rfl, h0⟩
     ·simp only [A.blk]
      rw [if_pos ⟨h0, trivial, by rw [List.length_append, flat_len]; omega, Nat.zero_le _, trivial, trivial, rfl⟩, if_neg h0, ← flat_len xs, List.take_left, efl]
     ·have hx0 : xs = [] := List.length_eq_zero_iff.1 (by omega)
      subst hx0
      simp [AHeap.rdL, h0]
    ·split <;> simp
    ·split <;> simp
    ·by_cases h0 : cap = 0
     ·rw [if_pos h0]; exact Chg.new _ _
     ·rw [if_neg h0]; exact Chg.kill_new (.inr ⟨⟨b, 0, sp⟩, by rw [hs], rfl⟩)
  ·-- in between
   have hpl : p < xs.length := by omega
   have hcap : cap ≠ 0 := by have := A.le; omega
   have hsp : sp = some 7 := by rcases A.sp with ⟨e, _⟩ | ⟨_, e⟩; exact e; exact absurd e hcap
   subst hsp
   have htk : (xs.flatMap itC ++ R).take (xs.length * 6) = xs.flatMap itC := by rw [← flat_len xs, List.take_left]
   have e0 : insOk 6 64 57 s (p : Int) (⟨some ⟨vb, 0, some 0⟩, 1, 1⟩ : Slc) h = some (xs.flatMap itC ++ R, itC x, b, vb) := by
    rw [hs]
    unfold insOk
    simp only [A.blk, hv]
    rw [if_pos]
    refine ⟨hne ⟨b, 0, some 7⟩ (by rw [hs]), trivial, trivial, trivial, trivial, by omega, by omega, by rw [List.length_append, flat_len]; omega, trivial, by simp [itC], by decide, rfl, ?_, by omega, by decide, A.le⟩
    rw [htk]; exact flat_one xs
   refine ⟨⟨some ⟨h.next, 0, some 7⟩, xs.length + 1, xs.length + 1⟩, (h.kill b).new (.cells ((xs.take p ++ x :: xs.drop p).flatMap itC) 57 true 0), ?_, .inr ⟨h.next, some 7, xs.length + 1, [], by simp; omega, by simp, rfl, hb, by simp, by omega, by simp; omega, by simp; omega, .inl ⟨rfl, by omega⟩⟩, Chg.kill_new (.inr ⟨⟨b, 0, some 7⟩, by rw [hs], rfl⟩), fun a ha => by cases ha; exact .inl (Nat.le_refl _)⟩
   unfold insA
   rw [e0]
   have ei : insC 6 (xs.flatMap itC ++ R) (itC x) xs.length p = (xs.take p ++ x :: xs.drop p).flatMap itC := by
    unfold insC
    rw [htk, List.take_append_of_le_length (by rw [flat_len]; omega), flat_take, flat_drop]
    simp [itC]
   simp only [hs, Int.toNat_natCast, ei]
end
end Gc
namespace Gc
open Go Gx
def Lx {α β : Type} (lt : α → α → Prop) (R : β → β → Prop) (x y : α × β) : Prop := lt x.1 y.1 ∨ x.1 = y.1 ∧ R x.2 y.2
theorem Lx.trans {α β : Type} {lt : α → α → Prop} {R : β → β → Prop} (h1 : ∀ a b c, lt a b → lt b c → lt a c) (h2 : ∀ a b c, R a b → R b c → R a c) : ∀ x y z : α × β, Lx lt R x y → Lx lt R y z → Lx lt R x z := by
 rintro ⟨a, b⟩ ⟨c, d⟩ ⟨e, f⟩ (p | ⟨p, p'⟩) (q | ⟨q, q'⟩)
 ·exact .inl (h1 _ _ _ p q)
 ·simp only at q p; subst q; exact .inl p
 ·simp only at q p; subst p; exact .inl q
 ·simp only at q p; subst p; subst q; exact .inr ⟨rfl, h2 _ _ _ p' q'⟩
theorem Lx.total {α β : Type} {lt : α → α → Prop} {R : β → β → Prop} (h1 : ∀ a b, lt a b ∨ a = b ∨ lt b a) (h2 : ∀ a b, R a b ∨ a = b ∨ R b a) : ∀ x y : α × β, Lx lt R x y ∨ x = y ∨ Lx lt R y x := by
 rintro ⟨a, b⟩ ⟨c, d⟩
 rcases h1 a c with h | h | h
 ·exact .inl (.inl h)
 ·subst h
  rcases h2 b d with g | g | g
  ·exact .inl (.inr ⟨rfl, g⟩)
  ·subst g; exact .inr (.inl rfl)
  ·exact .inr (.inr (.inr ⟨rfl, g⟩))
 ·exact .inr (.inr (.inl h))
def ltB (a b : ByteArray) : Prop := bl a < bl b
theorem ltB_trans (a b c : ByteArray) (h1 : ltB a b) (h2 : ltB b c) : ltB a c := List.lt_trans h1 h2
theorem ltB_total (a b : ByteArray) : ltB a b ∨ a = b ∨ ltB b a := by
 by_cases c : bl a < bl b
 ·exact .inl c
 ·by_cases d : bl b < bl a
  ·exact .inr (.inr d)
  ·exact .inr (.inl (bl_inj (List.le_antisymm (List.not_lt.1 d) (List.not_lt.1 c))))
def ltZ (a b : Int) : Prop := a < b
theorem ltZ_trans (a b c : Int) (h1 : ltZ a b) (h2 : ltZ b c) : ltZ a c := Int.lt_trans h1 h2
theorem ltZ_total (a b : Int) : ltZ a b ∨ a = b ∨ ltZ b a := by unfold ltZ; omega
def keyI (x : It) : ByteArray × ByteArray × Int × Int × Int × Int := (x.1, x.2.1, x.2.2.2.1, x.2.2.2.2.1, x.2.2.2.2.2, x.2.2.1)
theorem keyI_inj {x y : It} (h : keyI x = keyI y) : x = y := by
 obtain ⟨a, b, c, d, e, f⟩ := x
 obtain ⟨a', b', c', d', e', f'⟩ := y
 simp only [keyI, Prod.mk.injEq] at h
 obtain ⟨rfl, rfl, rfl, rfl, rfl, rfl⟩ := h
 rfl
def ltI : ByteArray × ByteArray × Int × Int × Int × Int → ByteArray × ByteArray × Int × Int × Int × Int → Prop := Lx ltB (Lx ltB (Lx ltZ (Lx ltZ (Lx ltZ ltZ))))
theorem lessI_iff (x y : It) : lessI x y = true ↔ ltI (keyI x) (keyI y) := by
 rw [less_same]
 unfold rlessI ltI Lx keyI ltB ltZ
 simp only
 by_cases c1 : x.1 = y.1
 rotate_left
 ·simp [c1]
 by_cases c2 : x.2.1 = y.2.1
 rotate_left
 ·simp [c1, c2, List.lt_irrefl]
 by_cases c3 : x.2.2.2.1 = y.2.2.2.1
 rotate_left
 ·simp [c1, c2, c3, List.lt_irrefl]
 by_cases c4 : x.2.2.2.2.1 = y.2.2.2.2.1
 rotate_left
 ·simp [c1, c2, c3, c4, List.lt_irrefl]
 by_cases c5 : x.2.2.2.2.2 = y.2.2.2.2.2
 rotate_left
 ·simp [c1, c2, c3, c4, c5, List.lt_irrefl]
 simp [c1, c2, c3, c4, c5, List.lt_irrefl]
theorem lessI_trans {x y z : It} (h1 : lessI x y = true) (h2 : lessI y z = true) : lessI x z = true := by
 rw [lessI_iff] at *
 exact Lx.trans ltB_trans (Lx.trans ltB_trans (Lx.trans ltZ_trans (Lx.trans ltZ_trans (Lx.trans ltZ_trans ltZ_trans)))) _ _ _ h1 h2
theorem lessI_total (x y : It) : lessI x y = true ∨ x = y ∨ lessI y x = true := by
 rw [lessI_iff, lessI_iff]
 rcases Lx.total ltB_total (Lx.total ltB_total (Lx.total ltZ_total (Lx.total ltZ_total (Lx.total ltZ_total ltZ_total)))) (keyI x) (keyI y) with h | h | h
 ·exact .inl h
 ·exact .inr (.inl (keyI_inj h))
 ·exact .inr (.inr h)
theorem ord_zero {x y : It} : ord x y = 0 ↔ x = y := by
 constructor
 ·intro h
  have e : ∀ (c : Int) (l : List Int), orL (c :: l) = 0 → c = 0 ∧ orL l = 0 := fun c l h => by
   simp only [orL] at h
   by_cases hc : c = 0
   ·simp [hc] at h; exact ⟨hc, h⟩
   ·simp [hc] at h
  unfold ord ordL at h
  obtain ⟨a1, h⟩ := e _ _ h
  obtain ⟨a2, h⟩ := e _ _ h
  obtain ⟨a3, h⟩ := e _ _ h
  obtain ⟨a4, h⟩ := e _ _ h
  obtain ⟨a5, h⟩ := e _ _ h
  obtain ⟨a6, h⟩ := e _ _ h
  rw [cmpB_zero] at a1 a2
  rw [cmpI_zero] at a3 a4 a5 a6
  exact keyI_inj (by simp [keyI, a1, a2, a3, a4, a5, a6])
 ·rintro rfl
  have b : ∀ a : ByteArray, cmpB a a = 0 := fun a => cmpB_zero.2 rfl
  have i : ∀ a : Int, cmpI a a = 0 := fun a => cmpI_zero.2 rfl
  simp [ord, ordL, orL, b, i]
theorem lessI_irrefl (x : It) : lessI x x = false := by
 have : ord x x = 0 := ord_zero.2 rfl
 simp [lessI, this]
def Rises (xs : List It) : Prop := xs.Pairwise fun x y => lessI x y = true
def posI (x : It) (xs : List It) : Nat := (xs.takeWhile fun y => lessI y x).length
open Classical in
noncomputable def putI (x : It) (xs : List It) : List It := if x ∈ xs then xs else (xs.takeWhile fun y => lessI y x) ++ x :: xs.dropWhile fun y => lessI y x
theorem posI_le (x : It) (xs : List It) : posI x xs ≤ xs.length := by
 unfold posI
 exact (List.takeWhile_sublist _).length_le
theorem take_pos (x : It) (xs : List It) : xs.take (posI x xs) = xs.takeWhile fun y => lessI y x := by
 unfold posI
 induction xs with
 | nil => rfl
 | cons y xs ih =>
  by_cases c : lessI y x = true
  ·simp [c, ih]
  ·simp [c]
theorem drop_pos (x : It) (xs : List It) : xs.drop (posI x xs) = xs.dropWhile fun y => lessI y x := by
 unfold posI
 induction xs with
 | nil => rfl
 | cons y xs ih =>
  by_cases c : lessI y x = true
  ·simp [c, ih]
  ·simp [c]
theorem pos_ahead {x : It} : ∀ {xs : List It} {i : Nat} {y : It}, i < posI x xs → xs[i]? = some y → lessI y x = true
 | [], i, y, h, _ => by simp [posI] at h
 | z :: xs, i, y, h, hy => by
  unfold posI at h
  by_cases c : lessI z x = true
  ·simp only [List.takeWhile_cons, c, if_true, List.length_cons] at h
   cases i with
   | zero => simp at hy; subst hy; exact c
   | succ i => exact pos_ahead (xs := xs) (i := i) (by unfold posI; omega) (by simpa using hy)
  ·simp [c] at h
theorem pos_behind {x : It} : ∀ {xs : List It} {i : Nat} {y : It}, Rises xs → posI x xs ≤ i → xs[i]? = some y → lessI y x = false
 | [], i, y, _, _, hy => by simp at hy
 | z :: xs, i, y, hr, h, hy => by
  unfold posI at h
  unfold Rises at hr
  rw [List.pairwise_cons] at hr
  by_cases c : lessI z x = true
  ·simp only [List.takeWhile_cons, c, if_true, List.length_cons] at h
   cases i with
   | zero => omega
   | succ i => exact pos_behind (xs := xs) (i := i) hr.2 (by unfold posI; omega) (by simpa using hy)
  ·have c' : lessI z x = false := by simpa using c
   cases i with
   | zero => simp at hy; subst hy; exact c'
   | succ i =>
    have hz := hr.1 y (List.mem_of_getElem? (by simpa using hy))
    cases d : lessI y x
    ·rfl
    ·rw [lessI_trans hz d] at c'; cases c'
theorem pos_found {x : It} {xs : List It} (hr : Rises xs) : (∃ y, xs[posI x xs]? = some y ∧ ord y x = 0) ↔ x ∈ xs := by
 constructor
 ·rintro ⟨y, hy, h⟩
  rw [ord_zero] at h
  subst h
  exact List.mem_of_getElem? hy
 ·intro hx
  obtain ⟨i, hi, e⟩ := List.getElem_of_mem hx
  have hx' : xs[i]? = some x := by rw [← e]; exact List.getElem?_eq_getElem hi
  have h1 : posI x xs ≤ i := Nat.le_of_not_lt fun q => by
   have := pos_ahead q hx'
   rw [lessI_irrefl] at this; cases this
  have hlt : posI x xs < xs.length := by omega
  obtain ⟨y, hy⟩ := isome hlt
  refine ⟨y, hy, ord_zero.2 ?_⟩
  by_cases e2 : posI x xs = i
  ·rw [e2, hx'] at hy; cases hy; rfl
  ·have hlt2 : posI x xs < i := by omega
   have hyx : lessI y x = true := by
    have hp := List.pairwise_iff_getElem.1 hr (posI x xs) i hlt (by omega) hlt2
    have e3 : xs[posI x xs] = y := (List.getElem?_eq_some_iff.1 hy).2
    rw [e3, e] at hp; exact hp
   rw [pos_behind hr (Nat.le_refl _) hy] at hyx; cases hyx
theorem put_mem {x y : It} {xs : List It} : y ∈ putI x xs ↔ y = x ∨ y ∈ xs := by
 unfold putI
 split
 ·rename_i h
  constructor
  ·exact .inr
  ·rintro (rfl | h')
   ·exact h
   ·exact h'
 ·have e := List.takeWhile_append_dropWhile (p := fun y => lessI y x) (l := xs)
  constructor
  ·intro h
   rcases List.mem_append.1 h with h | h
   ·exact .inr ((List.takeWhile_sublist _).subset h)
   ·rcases List.mem_cons.1 h with h | h
    ·exact .inl h
    ·exact .inr ((List.dropWhile_sublist _).subset h)
  ·rintro (rfl | h)
   ·simp
   ·rw [← e] at h
    rcases List.mem_append.1 h with h | h
    ·exact List.mem_append_left _ h
    ·exact List.mem_append_right _ (List.mem_cons_of_mem _ h)
theorem put_rises {x : It} {xs : List It} (hr : Rises xs) : Rises (putI x xs) := by
 unfold putI
 split
 ·exact hr
 ·rename_i hx
  have ht : ∀ y ∈ xs.takeWhile (fun y => lessI y x), lessI y x = true := fun y hy => by
   rw [← take_pos] at hy
   obtain ⟨i, hi, e⟩ := List.getElem_of_mem hy
   have : (xs.take (posI x xs))[i]? = some y := by rw [← e]; exact List.getElem?_eq_getElem hi
   rw [List.getElem?_take] at this
   split at this
   ·rename_i hlt; exact pos_ahead hlt this
   ·cases this
  have hd : ∀ y ∈ xs.dropWhile (fun y => lessI y x), lessI x y = true := fun y hy => by
   rw [← drop_pos] at hy
   obtain ⟨i, hi, e⟩ := List.getElem_of_mem hy
   have h1 : (xs.drop (posI x xs))[i]? = some y := by rw [← e]; exact List.getElem?_eq_getElem hi
   rw [List.getElem?_drop] at h1
   have h2 := pos_behind hr (Nat.le_add_right _ _) h1
   rcases lessI_total x y with h | h | h
   ·exact h
   ·subst h; exact absurd (List.mem_of_getElem? h1) hx
   ·rw [h] at h2; cases h2
  unfold Rises at hr ⊢
  rw [List.pairwise_append, List.pairwise_cons]
  refine ⟨hr.sublist (List.takeWhile_sublist _), ⟨hd, hr.sublist (List.dropWhile_sublist _)⟩, fun a ha b hb => ?_⟩
  rcases List.mem_cons.1 hb with rfl | hb
  ·exact ht a ha
  ·exact lessI_trans (ht a ha) (hd b hb)
theorem put_len (x : It) (xs : List It) : (putI x xs).length ≤ xs.length + 1 := by
 unfold putI
 split
 ·omega
 ·have e := congrArg List.length (List.takeWhile_append_dropWhile (p := fun y => lessI y x) (l := xs))
  simp only [List.length_append, List.length_cons] at e ⊢
  omega
end Gc
namespace Gc
open Go Gx
def idx (id : ByteArray) : Nat := match bl id with
 | [] => 0
 | b :: _ => b.toNat
theorem idx_lt (id : ByteArray) : idx id < 256 := by
 unfold idx
 split
 ·omega
 ·rename_i b _ _; exact b.toNat_lt
def tabC (sl : Nat → Slc) : List Value := (List.range 256).map fun i => .slice (sl i).a (sl i).len (sl i).cap
theorem tabC_len (sl : Nat → Slc) : (tabC sl).length = 256 := by simp [tabC]
theorem tabC_get (sl : Nat → Slc) {i : Nat} (hi : i < 256) : (tabC sl)[i]? = some (.slice (sl i).a (sl i).len (sl i).cap) := by simp [tabC, hi]
def upd {α : Type} (f : Nat → α) (i : Nat) (x : α) : Nat → α := fun j => if j = i then x else f j
theorem tabC_set (sl : Nat → Slc) {i : Nat} (s : Slc) : (tabC sl).set i (.slice s.a s.len s.cap) = tabC (upd sl i s) := by
 apply List.ext_getElem?
 intro j
 rw [List.getElem?_set, tabC_len]
 by_cases hj : j < 256
 ·rw [tabC_get _ hj, tabC_get _ hj]
  by_cases e : i = j
  ·subst e; simp [hj, upd]
  ·simp [e, upd, Ne.symm e]
 ·rw [List.getElem?_eq_none (l := tabC sl) (by rw [tabC_len]; omega), List.getElem?_eq_none (l := tabC _) (by rw [tabC_len]; omega)]
  split <;> simp_all
def TOwn (tb : Nat) (sl : Nat → Slc) (y : Nat) : Prop := y = tb ∨ ∃ i, i < 256 ∧ ∃ a, (sl i).a = some a ∧ a.block = y
structure Tab (base : Nat) (h : AHeap) (tb : Nat) (sl : Nat → Slc) (F : Nat → List It) : Prop where
 blk : h.get tb = some (.cells (tabC sl) 123 true 0)
 lt : tb < h.next
 ge : base ≤ tb
 slot : ∀ i, i < 256 → SlotR base h tb (sl i) (F i)
 apart : ∀ i j a b, i < 256 → j < 256 → i ≠ j → (sl i).a = some a → (sl j).a = some b → a.block ≠ b.block
section
variable {base tb : Nat} {h h' : AHeap} {sl : Nat → Slc} {F : Nat → List It}
theorem Tab.own (T : Tab base h tb sl F) {y : Nat} (hy : TOwn tb sl y) : base ≤ y ∧ y < h.next := by
 rcases hy with rfl | ⟨i, hi, a, ha, rfl⟩
 ·exact ⟨T.ge, T.lt⟩
 ·have := (T.slot i hi).own a ha; exact ⟨this.1, this.2.1⟩
theorem Tab.chg {S : Nat → Prop} (T : Tab base h tb sl F) (c : Chg S h h') (hs : ∀ y, TOwn tb sl y → ¬ S y) : Tab base h' tb sl F :=
 ⟨(c.oth tb T.lt (hs tb (.inl rfl))).trans T.blk, Nat.lt_of_lt_of_le T.lt c.nx, T.ge, fun i hi => (T.slot i hi).chg c fun a ha => hs _ (.inr ⟨i, hi, a, ha, rfl⟩), T.apart⟩
theorem Tab.keeps (T : Tab base h tb sl F) (c : Keeps h h') : Tab base h' tb sl F := T.chg c fun _ _ f => f
theorem Tab.ext {G : Nat → List It} (T : Tab base h tb sl F) (e : ∀ i, i < 256 → F i = G i) : Tab base h tb sl G := ⟨T.blk, T.lt, T.ge, fun i hi => e i hi ▸ T.slot i hi, T.apart⟩
theorem tabC_new : List.replicate 256 (Value.slice none 0 0) = tabC fun _ => ⟨none, 0, 0⟩ := by
 apply List.ext_getElem?
 intro j
 rw [List.getElem?_replicate]
 by_cases hj : j < 256
 ·rw [tabC_get _ hj, if_pos hj]
 ·rw [if_neg hj, List.getElem?_eq_none (by rw [tabC_len]; omega)]
theorem new_spec (k : Nat) (D : CallF) (h : AHeap) : ∃ h', lookup_New k D h = some (some ⟨h.next, 0, none⟩, h') ∧ Keeps h h' ∧ Tab h.next h' h.next (fun _ => ⟨none, 0, 0⟩) (fun _ => []) := by
 unfold lookup_New
 rw [tabC_new]
 exact ⟨_, rfl, Keeps.new h _, by simp, by simp, Nat.le_refl _, fun i _ => .inl ⟨rfl, rfl⟩, fun i j a b _ _ _ ha => by cases ha⟩
theorem list_spec (k : Nat) (D : CallF) (tb : Nat) (id : ByteArray) (h : AHeap) : lookup_Table_list k D (some ⟨tb, 0, none⟩) id h = some (some ⟨tb, idx id, none⟩, h) := by
 simp only [lookup_Table_list, beq_ba]
 by_cases c : id = ⟨#[]⟩
 ·subst c
  rw [if_pos (by simp)]
  rfl
 ·rw [if_neg (by simp [c])]
  obtain ⟨b, t, e⟩ : ∃ b t, bl id = b :: t := List.exists_cons_of_ne_nil fun e => c (bl_inj (by rw [e]; rfl))
  have e1 : idxS id ((0 : Nat) : Int) = some (b.toNat : Int) := idxS_of (by rw [e]; rfl)
  have e2 : idx id = b.toNat := by unfold idx; rw [e]
  have e3 : idxA 256 1 ⟨tb, 0 + 0, none⟩ (b.toNat : Int) = some ⟨tb, 0 + 0 + b.toNat, none⟩ := sidxA0 b.toNat_lt
  refine bnd e1 (bnd rfl (bnd e3 ?_))
  rw [e2]; simp
theorem Tab.slotT {s' : Slc} {xs : List It} {i : Nat} (T : Tab base h tb sl F) (hi : i < 256) (c : Chg (ofS (sl i)) h h') (A : SlotR base h' tb s' xs) (hs : ∀ a, s'.a = some a → h.next ≤ a.block ∨ ∃ b, (sl i).a = some b ∧ b.block = a.block) :
  ∃ h2, st1 ⟨tb, i, none⟩ (.slice s'.a s'.len s'.cap) h' = some h2 ∧ Tab base h2 tb (upd sl i s') (upd F i xs) ∧ Chg (TOwn tb sl) h h2 ∧ ∀ y, TOwn tb (upd sl i s') y → h.next ≤ y ∨ TOwn tb sl y := by
 have htb : ¬ ofS (sl i) tb := fun ⟨a, ha, e⟩ => ((T.slot i hi).own a ha).2.2 e.symm
 have gb : h'.get tb = some (.cells (tabC sl) 123 true 0) := (c.oth tb T.lt htb).trans T.blk
 have e1 := st1_of (sp := none) (v := .slice s'.a s'.len s'.cap) gb (o := i) (by rw [tabC_len]; exact hi) rfl
 rw [tabC_set] at e1
 have nx := c.nx
 have c2 : Chg (· = tb) h' (h'.set tb (.cells (tabC (upd sl i s')) 123 true 0)) := Chg.set (.inr rfl)
 have own' : ∀ j, j < 256 → j ≠ i → ∀ a, (sl j).a = some a → ∀ b, s'.a = some b → a.block ≠ b.block := fun j hj hji a ha b hb => by
  have o1 := (T.slot j hj).own a ha
  rcases hs b hb with h1 | ⟨b2, h1, h2⟩
  ·omega
  ·rw [← h2]; exact T.apart j i a b2 hj hi hji ha h1
 refine ⟨_, e1, ⟨by simp, Nat.lt_of_lt_of_le T.lt nx, T.ge, fun j hj => ?_, fun j l a b hj hl hjl ha hb => ?_⟩, ?_, ?_⟩
 ·by_cases e : j = i
  ·subst e
   simp only [upd, if_true]
   exact A.chg c2 fun a ha e2 => (A.own a ha).2.2 e2
  ·simp only [upd, e, if_false]
   refine ((T.slot j hj).chg c fun a ha ⟨b, hb, e2⟩ => T.apart j i a b hj hi e ha hb e2).chg c2 fun a ha e2 => ((T.slot j hj).own a ha).2.2 e2
 ·simp only [upd] at ha hb
  by_cases e : j = i
  ·have el : l ≠ i := fun q => hjl (e.trans q.symm)
   rw [if_pos e] at ha; rw [if_neg el] at hb
   exact Ne.symm (own' l hl el b hb a ha)
  ·rw [if_neg e] at ha
   by_cases e2 : l = i
   ·rw [if_pos e2] at hb; exact own' j hj e a ha b hb
   ·rw [if_neg e2] at hb; exact T.apart j l a b hj hl hjl ha hb
 ·refine Chg.beh (T := (· = tb)) (c.wk fun y _ ⟨a, ha, e⟩ => .inr ⟨i, hi, a, ha, e.symm⟩) c2 fun y _ e => .inl e
 ·rintro y (rfl | ⟨j, hj, a, ha, rfl⟩)
  ·exact .inr (.inl rfl)
  ·simp only [upd] at ha
   by_cases e : j = i
   ·rw [if_pos e] at ha
    rcases hs a ha with h1 | ⟨b, h1, h2⟩
    ·exact .inl h1
    ·exact .inr (.inr ⟨i, hi, b, h1, h2⟩)
   ·rw [if_neg e] at ha
    exact .inr (.inr ⟨j, hj, a, ha, rfl⟩)
end
noncomputable def addF (F : Nat → List It) (x : It) : Nat → List It := upd F (idx x.1) (putI x (F (idx x.1)))
def RisesT (F : Nat → List It) : Prop := ∀ i, i < 256 → Rises (F i)
theorem addF_rises {F : Nat → List It} (hr : RisesT F) (x : It) : RisesT (addF F x) := fun i hi => by
 unfold addF upd
 split
 ·exact put_rises (hr _ (idx_lt _))
 ·exact hr i hi
def MaxT (F : Nat → List It) (n : Nat) : Prop := ∀ i, i < 256 → (F i).length ≤ n
theorem addF_max {F : Nat → List It} {n : Nat} (hm : MaxT F n) (x : It) : MaxT (addF F x) (n + 1) := fun i hi => by
 unfold addF upd
 split
 ·exact Nat.le_trans (put_len _ _) (by have := hm _ (idx_lt x.1); omega)
 ·have := hm i hi; omega
noncomputable def addL (F : Nat → List It) (xs : List It) : Nat → List It := xs.foldl addF F
theorem addL_rises : ∀ {xs : List It} {F : Nat → List It}, RisesT F → RisesT (addL F xs)
 | [], _, h => h
 | x :: xs, _, h => addL_rises (xs := xs) (addF_rises h x)
theorem addL_max : ∀ {xs : List It} {F : Nat → List It} {n : Nat}, MaxT F n → MaxT (addL F xs) (n + xs.length)
 | [], _, _, h => h
 | x :: xs, F, n, h => by
  have := addL_max (xs := xs) (addF_max h x)
  rw [List.length_cons, show n + (xs.length + 1) = n + 1 + xs.length by omega]; exact this
section
variable {k base tb : Nat} {h : AHeap} {sl : Nat → Slc} {F : Nat → List It} {s : Slc} {xs : List It}
theorem add_l0 (hk : 100 ≤ k) (bot) (j : AHeap → Option (Int × AHeap)) {Q : Int × AHeap → Prop} (R : RowW 6 itC h s xs) {N : Nat} (hN : N + xs.length ≤ 1000000000) (hkN : N + xs.length + 10 ≤ k) (hs : ∀ a, s.a = some a → ¬ TOwn tb sl a.block) (hb : base ≤ h.next)
  (hj : ∀ H sl', Tab base H tb sl' (addL F xs) → Chg (TOwn tb sl) h H → (∀ y, TOwn tb sl' y → h.next ≤ y ∨ TOwn tb sl y) → Gx.Wp (j H) Q) (_T : Tab base h tb sl F) (hr : RisesT F) (hm : MaxT F N) :
  ∀ (d i : Nat) (H : AHeap) (sl' : Nat → Slc), i + d = xs.length → Tab base H tb sl' (addL F (xs.take i)) → Chg (TOwn tb sl) h H → (∀ y, TOwn tb sl' y → h.next ≤ y ∨ TOwn tb sl y) →
   Gx.Wp (iterK bot (d + 1) (lookup_Table_Add_l0b k (DD k) j) (some ⟨tb, 0, none⟩) s (s.len : Int) (i : Int) H) Q := by
 intro d
 induction d with
 | zero =>
  intro i H sl' hd T' c ho
  obtain rfl : i = xs.length := by omega
  rw [List.take_length] at T'
  rw [iterK_s]; simp only [lookup_Table_Add_l0b]
  exact .ifn (by rw [R.len]; simp) (hj H sl' T' c ho)
 | succ d ih =>
  intro i H sl' hd T' c ho
  rw [iterK_s]; simp only [lookup_Table_Add_l0b]
  obtain ⟨x, hx⟩ := isome (l := xs) (i := i) (by omega)
  have RH : RowW 6 itC H s xs := R.chg c hs
  obtain ⟨q, b1, b2, _⟩ := RH.ld itC_len (by decide) hx
  have nH := c.nx
  have hi256 := idx_lt x.1
  refine .ifp (by rw [R.len]; simp; omega) (Gx.Wp.jn fun j18 h18 => .bnd b1 (.bnd b2 (.bnd (decI6 x) (Wp.newE fun H1 e1 k1 n1 g1 => Wp.stL g1 rfl rfl rfl (by decide) fun H2 c2 n2 g2 => ?_))))
  have k2 : Keeps H H2 := k1.keepsS c2 fun y hy => by subst hy; omega
  have gx : H2.get H.next = some (.cells (itC x) 57 true 0) := g2
  have T2 := T'.keeps k2
  have hrx : RisesT (addL F (xs.take i)) := addL_rises hr
  have hmx : MaxT (addL F (xs.take i)) (N + i) := by have := addL_max (xs := xs.take i) hm; rwa [List.length_take, Nat.min_eq_left (by omega)] at this
  have S2 := T2.slot _ hi256
  have hln := hmx _ hi256
  have nx : addL F (xs.take (i + 1)) = addF (addL F (xs.take i)) x := by
   rw [show xs.take (i + 1) = xs.take i ++ [x] by rw [List.take_add_one, hx]; rfl]
   unfold addL; rw [List.foldl_append]; rfl
  have next : ∀ (H' : AHeap) (sl2 : Nat → Slc), Tab base H' tb sl2 (addL F (xs.take (i + 1))) → Chg (TOwn tb sl) h H' → (∀ y, TOwn tb sl2 y → h.next ≤ y ∨ TOwn tb sl y) → Gx.Wp (j18 (some ⟨tb, 0, none⟩) s (s.len : Int) (i : Int) H') Q := fun H' sl2 t1 t2 t3 => by
   rw [h18]
   dsimp only
   rw [Gx.w1 (by omega)]
   exact ih (i + 1) H' sl2 (by omega) t1 t2 t3
  refine .bnd (show ldS ⟨H.next, 0, none⟩ H2 = some x.1 by simp [ldS, AHeap.rd1, gx, itC, decS]) (.bnd (list_spec k _ tb x.1 H2) (.bnd rfl (.bnd (sldL_at T2.blk (tabC_get _ hi256)) (.bnd (sldA_at gx rfl) (.bnd (decI6 x) ?_)))))
  refine .call (search_spec hk (by omega) S2.row (by omega) x (posI_le x _) (fun i2 y hi2 hy => by have := pos_ahead hi2 hy; simpa [lessI] using this) (fun i2 y hi2 hy => by have := pos_behind (hrx _ hi256) hi2 hy; simpa [lessI] using this)) fun r30 ⟨q1, q2, k3⟩ => ?_
  rw [pos_found (hrx _ hi256)] at q2
  have k3' := k2.trans k3
  have T3 := T2.keeps k3
  have gx3 := k3.got (by omega) gx
  by_cases hin : x ∈ addL F (xs.take i) (idx x.1)
  ·have : r30.1.2 = true := q2.2 hin
   refine .ifn (by simp [this]) (next r30.2 sl' ?_ (Chg.beh c k3' fun y _ f => f.elim) ho)
   rw [nx]
   refine T3.ext fun l hl => ?_
   unfold addF upd
   split
   ·rename_i e; rw [e]; unfold putI; rw [if_pos hin]
   ·rfl
  ·have : r30.1.2 = false := by cases e : r30.1.2; rfl; exact absurd (q2.1 e) hin
   refine .ifp (by simp [this]) (.bnd (sldA_at gx3 rfl) (.bnd (decI6 x) (Wp.newE fun H4 e4 k4 n4 g4 => ?_)))
   have T4 := T3.keeps k4
   have gx4 : H4.get r30.2.next = some (.cells (itC x) 57 true 0) := g4
   have l4 := sldL_at (sp := none) T4.blk (tabC_get _ hi256)
   have l3 := sldL_at (sp := none) T3.blk (tabC_get _ hi256)
   have n3 := k3'.nx
   refine .bnd rfl (.bnd l4 (.gp (ssw1 (by rw [l3]; rfl)) ?_))
   have S4 := T4.slot _ hi256
   obtain ⟨s', h5, a1, A5, c5, d5⟩ := ins_spec k (DD k) S4 (by omega) T4.lt x (posI_le x _) (by omega) gx4 (by omega) (fun a ha => by have := ((T3.slot _ hi256).own a ha).2.1; omega)
   rw [q1]
   refine .bnd a1 (.bnd rfl ?_)
   obtain ⟨h6, a6, T6, c6, o6⟩ := T4.slotT hi256 c5 A5 d5
   refine .bnd a6 (next h6 (upd sl' (idx x.1) s') ?_ ?_ ?_)
   ·rw [nx]
    refine T6.ext fun l hl => ?_
    unfold addF upd
    split
    ·unfold putI; rw [if_neg hin, take_pos, drop_pos]
    ·rfl
   ·refine Chg.beh c (Chg.trans (S := TOwn tb sl') ((k3'.trans k4).keeps) c6) fun y hy z => ?_
    rcases ho y z with h1 | h1
    ·omega
    ·exact h1
   ·intro y hy
    rcases o6 y hy with h1 | h1
    ·have := k4.nx; left; omega
    ·exact ho y h1
theorem add_spec (hk : 100 ≤ k) (R : RowW 6 itC h s xs) {N : Nat} (hN : N + xs.length ≤ 1000000000) (hkN : N + xs.length + 10 ≤ k) (hs : ∀ a, s.a = some a → ¬ TOwn tb sl a.block) (hb : base ≤ h.next) (T : Tab base h tb sl F) (hr : RisesT F) (hm : MaxT F N) (hok : ∀ x ∈ xs, okI x) :
  Gx.Wp (lookup_Table_Add k (DD k) (some ⟨tb, 0, none⟩) s h) fun z => z.1 = 0 ∧ ∃ sl', Tab base z.2 tb sl' (addL F xs) ∧ Chg (TOwn tb sl) h z.2 ∧ ∀ y, TOwn tb sl' y → h.next ≤ y ∨ TOwn tb sl y := by
 simp only [lookup_Table_Add]
 refine Gx.Wp.jn fun j4 h4 => ?_
 unfold lookup_Table_Add_l1
 obtain ⟨bot, eb⟩ := iterK_of (fun _ _ _ _ _ _ => none) (lookup_Table_Add_l1b k (DD k) j4) (show xs.length + 1 ≤ k by omega)
 rw [eb]
 have loop : ∀ (d i : Nat) (H : AHeap), i + d = xs.length → Keeps h H → Gx.Wp (iterK bot (d + 1) (lookup_Table_Add_l1b k (DD k) j4) (some ⟨tb, 0, none⟩) s s (s.len : Int) (i : Int) H) fun z => z.1 = 0 ∧ ∃ sl', Tab base z.2 tb sl' (addL F xs) ∧ Chg (TOwn tb sl) h z.2 ∧ ∀ y, TOwn tb sl' y → h.next ≤ y ∨ TOwn tb sl y := fun d => by
  induction d with
  | zero =>
   intro i H hd kp
   obtain rfl : i = xs.length := by omega
   rw [iterK_s]; simp only [lookup_Table_Add_l1b]
   refine .ifn (by rw [R.len]; simp) ?_
   rw [h4]
   refine Gx.Wp.jn fun j6 h6 => ?_
   unfold lookup_Table_Add_l0
   obtain ⟨bot2, eb2⟩ := iterK_of (fun _ _ _ _ _ => none) (lookup_Table_Add_l0b k (DD k) j6) (show xs.length + 1 ≤ k by omega)
   rw [eb2]
   have nH := kp.nx
   exact add_l0 hk bot2 j6 (R.keeps kp) hN hkN hs (by omega) (fun H2 sl' t1 t2 t3 => by rw [h6]; exact .of ⟨rfl, sl', t1, Chg.trans kp.keeps t2, fun y hy => by rcases t3 y hy with q | q; left; omega; exact .inr q⟩) (T.keeps kp) hr hm xs.length 0 H sl (by omega) (T.keeps kp) (.refl _ _) (fun y hy => .inr hy)
  | succ d ih =>
   intro i H hd kp
   rw [iterK_s]; simp only [lookup_Table_Add_l1b]
   obtain ⟨x, hx⟩ := isome (l := xs) (i := i) (by omega)
   obtain ⟨q, b1, b2, _⟩ := (R.keeps kp).ld itC_len (by decide) hx
   refine .ifp (by rw [R.len]; simp; omega) (.bnd b1 (.bnd b2 (.bnd (decI6 x) (Wp.newE fun H1 e1 k1 n1 g1 => Wp.stL g1 rfl rfl rfl (by decide) fun H2 c2 n2 g2 => ?_))))
   have k2 : Keeps h H2 := kp.trans (k1.keepsS c2 fun y hy => by subst hy; omega)
   have gx : H2.get H.next = some (.cells (itC x) 57 true 0) := g2
   refine .bnd (sldA_at gx rfl) (.bnd (decI6 x) (.call (check_spec k _ x H2) fun r ⟨q1, q2⟩ => ?_))
   have h0 : r.1 = 0 := by rw [q1]; unfold chkI; rw [if_pos (hok x (mem_of hx))]
   refine .ifn (by simp [h0]) ?_
   rw [Gx.w1 (by omega)]
   exact ih (i + 1) r.2 (by omega) (k2.trans q2)
 exact loop xs.length 0 h (by omega) (.refl _ _)
end
end Gc
namespace Gc
open Go Gx
section
variable {k base tb : Nat} {h : AHeap} {sl : Nat → Slc} {F : Nat → List It} {s : Slc} {xs : List It}
end
end Gc
namespace Gc
open Go Gx
def inP (p : ByteArray) (y : It) : Bool := decide (y.2.1 = p)
def outP (p : ByteArray) (y : It) : Bool := !inP p y
section
variable {k base tb : Nat} {h : AHeap} {s : Slc} {xs : List It} {pb : Nat} {p : ByteArray}
end
end Gc
namespace Gc
open Go Gx
def cntTo (F : Nat → List It) (n : Nat) : Nat := ((List.range n).map fun i => (F i).length).sum
theorem cntTo_s (F : Nat → List It) (n : Nat) : cntTo F (n + 1) = cntTo F n + (F n).length := by simp [cntTo, List.range_succ]
section
variable {k base tb : Nat} {h : AHeap} {sl : Nat → Slc} {F : Nat → List It}
end
def amg (x n : Int) : Int := Int.tmod (Int.tmod x n + n) n
theorem among_spec (k : Nat) (D : CallF) (x : Int) {n : Int} (hn : 0 < n) (hn2 : n < 1000000000) (h : AHeap) : book_Among k D x n h = some (amg x n, h) := by
 simp only [book_Among]
 rw [if_neg (by omega), if_neg (by omega)]
 have h1 : Int.tmod x n < n := Int.tmod_lt_of_pos x hn
 have h2 : -n < Int.tmod x n := by
  have := Int.lt_tmod_of_pos x hn
  omega
 rw [Gx.w64 _ (by omega)]
 rfl
def rep32 (b : Nat) : ByteArray := repB ⟨⟨[UInt8.ofNat b]⟩⟩ 32
def itemV (id pack off : Int) : It := (rep32 (amg id 20 * 13).toNat, rep32 (97 + amg pack 5).toNat, 1, amg off 100, 5, 3)
theorem rep_size (b : Nat) : (rep32 b).size = 32 := rfl
end Gc
namespace Gc
open Go Gx
def Tru {R : Type} (x : Option (R × AHeap)) (v : R) : Prop := ∃ h', x = some (v, h')
theorem Tru.wp {R : Type} {v : R} {x : Option (R × AHeap)} (h : Gx.Wp x fun q => q.1 = v) : Tru x v := by
 obtain ⟨⟨a, b⟩, e, q⟩ := h
 simp only at q
 subst q
 exact ⟨b, e⟩
def itB : It := itemV 1 1 9
theorem outB : outP itB.2.1 itB = false := by decide
section
variable {k : Nat}
theorem eqI (x y : It) : ((x.1 == y.1) && ((x.2.1 == y.2.1) && ((x.2.2.1 == y.2.2.1) && ((x.2.2.2.1 == y.2.2.2.1) && ((x.2.2.2.2.1 == y.2.2.2.2.1) && (x.2.2.2.2.2 == y.2.2.2.2.2)))))) = decide (x = y) := by
 obtain ⟨a, b, c, d, e, f⟩ := x
 obtain ⟨a', b', c', d', e', f'⟩ := y
 simp only [beq_ba, Prod.mk.injEq]
 rw [Bool.eq_iff_iff]
 simp
end
end Gc
namespace Gc
open Go Gx
variable {H : Type} {enc : TypeId × Value → H}
end Gc
namespace Gc
open Go Gx
def leb (n : Nat) : List UInt8 := if n < 128 then [UInt8.ofNat n] else UInt8.ofNat (n % 128 + 128) :: leb (n / 128)
termination_by n
decreasing_by omega
theorem leb_lt {n : Nat} (h : n < 128) : leb n = [UInt8.ofNat n] := by rw [leb]; rw [if_pos h]
theorem leb_ge {n : Nat} (h : ¬ n < 128) : leb n = UInt8.ofNat (n % 128 + 128) :: leb (n / 128) := by rw [leb]; rw [if_neg h]
theorem leb_len : ∀ (d n : Nat), n < 128 ^ (d + 1) → (leb n).length ≤ d + 1
 | 0, n, h => by rw [leb_lt (by omega)]; simp
 | d + 1, n, h => by
  by_cases c : n < 128
  ·rw [leb_lt c]; simp
  ·rw [leb_ge c, List.length_cons]
   have : n / 128 < 128 ^ (d + 1) := (Nat.div_lt_iff_lt_mul (by decide)).2 (by rw [Nat.pow_succ] at h; exact h)
   have := leb_len d (n / 128) this
   omega
def bA (l : List UInt8) : ByteArray := ⟨⟨l⟩⟩
theorem bA_size (l : List UInt8) : (bA l).size = l.length := rfl
theorem bA_app (l m : List UInt8) : bA l ++ bA m = bA (l ++ m) := by
 apply bl_inj
 simp [bl, bA, ByteArray.data_append]
theorem or128 : ∀ a : Fin 256, Go.bits .or .u8 (a.val : Int) 128 = ((a.val % 128 + 128 : Nat) : Int) := by decide +kernel
section
variable {k : Nat}
theorem encB_of (m : Nat) (h : m < 256) : Value.int .u8 (m : Int) = encB (UInt8.ofNat m) := by
 unfold encB
 congr 1
 have : (UInt8.ofNat m).toNat = m := by simp [UInt8.toNat_ofNat']; omega
 omega
theorem bytes_row {h : AHeap} {s : Slc} {l : List UInt8} (R : Row encB h s l) : bytesOf h s = some (bA l) := by
 have := R.rdS
 unfold Gx.rdS at this
 unfold bytesOf
 cases e : s.a with
 | none =>
  rw [e] at this
  have e2 : l.map encB = [] := by
   cases hl : l.map encB with
   | nil => rfl
   | cons x y => rw [hl] at this; cases this
  have : l = [] := by simpa using e2
  rw [this]; rfl
 | some a =>
  rw [e] at this
  simp only [Nat.mul_one] at this
  show (h.rdL a.block a.off s.len).bind _ = _
  rw [this]
  show (unbytes (l.map encB)).bind _ = _
  rw [unbytes_map]; rfl
theorem short_spec (D : CallF) (hk : 20 ≤ k) (n : Nat) (hn : n < 9223372036854775808) (h : AHeap) : Gx.Wp (num_Short k D (n : Int) h) fun z => z.1 = (bA (leb n), 0) ∧ Keeps h z.2 := by
 simp only [num_Short]
 refine .ifn (by simp) (Gx.Wp.jn fun j4 h4 => ?_)
 unfold num_Short_l0
 obtain ⟨bot, eb⟩ := iterK_of (fun _ _ _ => none) (num_Short_l0b k D j4) (show 9 + 1 ≤ k by omega)
 rw [eb]
 have loop : ∀ (d m : Nat) (l : List UInt8) (o : Slc) (H : AHeap), m < 128 ^ (d + 1) → m < 9223372036854775808 → l.length + d ≤ 20 → l ++ leb m = leb n → Keeps h H → Acc encB 5 h.next H o l → Gx.Wp (iterK bot (d + 1) (num_Short_l0b k D j4) (m : Int) o H) fun z => z.1 = (bA (leb n), 0) ∧ Keeps h z.2 := fun d => by
  induction d with
  | zero =>
   intro m l o H hm hm2 hl hlm kp A
   rw [iterK_s]; simp only [num_Short_l0b]
   have hm' : m < 128 := by simpa using hm
   refine .ifn (by simp; omega) ?_
   rw [h4]
   refine Wp.newE fun H1 e1 k1 n1 g1 => ?_
   rw [Gx.w8 _ (by omega), encB_of m (by omega)] at e1
   obtain ⟨s', h9, a1, a2, A', c9, d9⟩ := Acc.pushK A (fun _ => rfl) (UInt8.ofNat m) (bytes := 1) e1 (by omega) (by decide) kp.nx
   refine .bnd a1 (.bnd a2 (.bnd (bytes_row A'.row) (.of ⟨?_, kp.keepsS c9 fun y ⟨a, ha, e⟩ => by rw [e]; exact (A.lt a ha).2⟩)))
   rw [← hlm, leb_lt hm']
  | succ d ih =>
   intro m l o H hm hm2 hl hlm kp A
   rw [iterK_s]; simp only [num_Short_l0b]
   by_cases c : m < 128
   ·refine .ifn (by simp; omega) ?_
    rw [h4]
    refine Wp.newE fun H1 e1 k1 n1 g1 => ?_
    rw [Gx.w8 _ (by omega), encB_of m (by omega)] at e1
    obtain ⟨s', h9, a1, a2, A', c9, d9⟩ := Acc.pushK A (fun _ => rfl) (UInt8.ofNat m) (bytes := 1) e1 (by omega) (by decide) kp.nx
    refine .bnd a1 (.bnd a2 (.bnd (bytes_row A'.row) (.of ⟨?_, kp.keepsS c9 fun y ⟨a, ha, e⟩ => by rw [e]; exact (A.lt a ha).2⟩)))
    rw [← hlm, leb_lt c]
   ·refine .ifp (by simp; omega) (Wp.newE fun H1 e1 k1 n1 g1 => ?_)
    have ew : IntKind.wrap .u8 (m : Int) = ((m % 256 : Nat) : Int) := by rw [Go.IntKind.wrap_u8]; omega
    have eo : Go.bits .or .u8 (IntKind.wrap .u8 (m : Int)) 128 = ((m % 128 + 128 : Nat) : Int) := by
     rw [ew, or128 ⟨m % 256, by omega⟩]
     congr 2
     show m % 256 % 128 = m % 128
     omega
    rw [eo, encB_of _ (by omega)] at e1
    obtain ⟨s', h9, a1, a2, A', c9, d9⟩ := Acc.pushK A (fun _ => rfl) (UInt8.ofNat (m % 128 + 128)) (bytes := 1) e1 (by omega) (by decide) kp.nx
    refine .bnd a1 (.bnd a2 ?_)
    have ef : Int.fdiv (m : Int) 128 = ((m / 128 : Nat) : Int) := by rw [Int.fdiv_eq_ediv_of_nonneg _ (by decide)]; omega
    rw [ef]
    refine ih (m / 128) (l ++ [UInt8.ofNat (m % 128 + 128)]) s' h9 ((Nat.div_lt_iff_lt_mul (by decide)).2 (by rw [Nat.pow_succ] at hm; exact hm)) (by omega) (by rw [List.length_append, List.length_singleton]; omega) ?_ (kp.keepsS c9 fun y ⟨a, ha, e⟩ => by rw [e]; exact (A.lt a ha).2) A'
    rw [← hlm, leb_ge c]; simp
 exact loop 9 n [] ⟨none, 0, 0⟩ h (Nat.lt_of_lt_of_le hn (by decide)) hn (by simp) (by simp) (.refl _ _) (Acc.nil _ _ _ _)
theorem ishort_spec (D : CallF) (hk : 20 ≤ k) (n : Nat) (hn : n < 9223372036854775808) (h : AHeap) : Gx.Wp (index_short k D (n : Int) h) fun z => z.1 = bA (leb n) ∧ Keeps h z.2 := by
 simp only [index_short]
 exact .call (short_spec D hk n hn h) fun r ⟨q, kk⟩ => .of ⟨by rw [q], kk⟩
end
end Gc
namespace Gc
open Go Gx
structure BuS (base : Nat) (H : AHeap) (bb : Nat) (s : Slc) (l : List UInt8) : Prop where
 blk : ∃ pv, H.get bb = some (.cells [pv, .slice s.a s.len s.cap] 111 true 0) ∧ (pv = .pointer none ∨ pv = .pointer (some ⟨bb, 0, none⟩))
 acc : Acc encB 5 base H s l
 lt : bb < H.next
 ge : base ≤ bb
 ne : ∀ a, s.a = some a → a.block ≠ bb
def BOwn (bb : Nat) (s : Slc) (y : Nat) : Prop := y = bb ∨ ofS s y
section
variable {k base bb : Nat} {h H H' : AHeap} {s : Slc} {l : List UInt8}
theorem BuS.own (B : BuS base H bb s l) {y : Nat} (hy : BOwn bb s y) : base ≤ y ∧ y < H.next := by
 rcases hy with rfl | ⟨a, ha, rfl⟩
 ·exact ⟨B.ge, B.lt⟩
 ·exact ⟨(B.acc.lt a ha).2, (B.acc.lt a ha).1⟩
theorem BuS.chg {S : Nat → Prop} (B : BuS base H bb s l) (c : Chg S H H') (hs : ∀ y, BOwn bb s y → ¬ S y) : BuS base H' bb s l :=
 ⟨by
  obtain ⟨pv, g, e⟩ := B.blk
  exact ⟨pv, (c.oth bb B.lt (hs bb (.inl rfl))).trans g, e⟩, B.acc.chg c fun a ha => hs _ (.inr ⟨a, ha, rfl⟩), Nat.lt_of_lt_of_le B.lt c.nx, B.ge, B.ne⟩
theorem BuS.keeps (B : BuS base H bb s l) (c : Keeps H H') : BuS base H' bb s l := B.chg c fun _ _ f => f
theorem BuS.new (H : AHeap) (g : H'.get H.next = some (.cells [.pointer none, .slice none 0 0] 111 true 0)) (n : H'.next = H.next + 1) : BuS H.next H' H.next ⟨none, 0, 0⟩ [] :=
 ⟨⟨_, g, .inl rfl⟩, Acc.nil _ _ _ _, by omega, Nat.le_refl _, fun a ha => by cases ha⟩
theorem write_spec (D : CallF) (B : BuS base H bb s l) (x : ByteArray) (hx : 2 * (l.length + x.size) ≤ 281474976710656) :
  Gx.Wp (strings_Builder_WriteString k D (some ⟨bb, 0, none⟩) x H) fun z => ∃ s', BuS base z.2 bb s' (l ++ bl x) ∧ Chg (BOwn bb s) H z.2 ∧ ∀ y, BOwn bb s' y → H.next ≤ y ∨ BOwn bb s y := by
 simp only [strings_Builder_WriteString]
 obtain ⟨pv, g, hpv⟩ := B.blk
 have hlt := B.lt
 have hge := B.ge
 obtain ⟨H1, e1, g1, c1⟩ : ∃ H1, ccA ccTab ⟨bb, 0, none⟩ H = some H1 ∧ H1.get bb = some (.cells [.pointer (some ⟨bb, 0, none⟩), .slice s.a s.len s.cap] 111 true 0) ∧ Chg (· = bb) H H1 := by
  have ht : tabIn 111 0 2 ccTab = true := by decide
  rcases hpv with rfl | rfl
  ·refine ⟨_, ?_, sset_get _ _ _, Chg.set (.inr rfl)⟩
   ·unfold ccA
    simp only [g]
    rw [if_pos ⟨by simpa using ht, trivial⟩]
    show st1 ⟨bb, 0, none⟩ _ H = _
    rw [st1_of g (by simp) rfl]; rfl
  ·refine ⟨H, ?_, g, .refl _ _⟩
   ·unfold ccA
    simp only [g]
    rw [if_pos ⟨by simpa using ht, trivial⟩]
    simp
 have nx1 := c1.nx
 have A1 : Acc encB 5 base H1 s l := B.acc.chg c1 fun a ha e => B.ne a ha e
 obtain ⟨s', h5, a5, A5, c5, d5⟩ : ∃ s' h5, appendA 1 1 5 H1 s (bytesL x) x.size = some (s', h5) ∧ Acc encB 5 base h5 s' (l ++ bl x) ∧ Chg (ofS s) H1 h5 ∧ ∀ a, s'.a = some a → H1.next ≤ a.block ∨ ofS s a.block := by
  by_cases c : bl x = []
  ·have hx0 : x = ⟨#[]⟩ := bl_inj (by rw [c]; rfl)
   subst hx0
   refine ⟨s, H1, ?_, by rw [c, List.append_nil]; exact A1, .refl _ _, fun a ha => .inr ⟨a, ha, rfl⟩⟩
   rcases A1.st with ⟨rfl, _⟩ | ⟨b, gg⟩
   ·rfl
   ·rw [gg.s]
    show appendA 1 1 5 H1 _ [] 0 = _
    simp [appendA]
  ·obtain ⟨s', h5, p1, p2, p3, p4⟩ := A1.app (fun _ => rfl) (bl x) (bytes := 1) (by have : (bl x).length = x.size := rfl; omega) (by decide) (by omega)
   exact ⟨s', h5, p1, p2, p3, fun a ha => (p4 a ha).imp id fun q => ⟨a, q, rfl⟩⟩
 have n5 := c5.nx
 have g5 : h5.get bb = some (.cells [.pointer (some ⟨bb, 0, none⟩), .slice s.a s.len s.cap] 111 true 0) := c5.got (by omega) (fun ⟨a, ha, e⟩ => B.ne a ha e.symm) g1
 refine .bnd rfl (.bnd e1 (.bnd rfl (.bnd (sldL_at (o := 0 + 1) g1 rfl) (.bnd a5 (.bnd rfl (.bnd (st1_of g5 (by simp) rfl) (.of ?_)))))))
 have d5' : ∀ a, s'.a = some a → a.block ≠ bb := fun a ha e => by
  rcases d5 a ha with q | ⟨b, hb, q⟩
  ·omega
  ·exact B.ne b hb (q ▸ e)
 refine ⟨s', ⟨⟨_, sset_get _ _ _, .inr rfl⟩, A5.chg (S := (· = bb)) (Chg.set (.inr rfl)) fun a ha e => d5' a ha e, by simp; omega, hge, d5'⟩, ?_, ?_⟩
 ·refine Chg.beh (T := (· = bb)) (Chg.beh (T := ofS s) (c1.wk fun y _ e => .inl e) c5 fun y _ e => .inr e) (Chg.set (.inr rfl)) fun y _ e => .inl e
 ·rintro y (rfl | ⟨a, ha, rfl⟩)
  ·exact .inr (.inl rfl)
  ·rcases d5 a ha with q | q
   ·left; omega
   ·exact .inr (.inr q)
theorem unbytesS_map (l : List UInt8) : unbytesS (l.map encB) = some l := by
 induction l with
 | nil => rfl
 | cons x l ih =>
  have hx := x.toNat_lt
  simp only [List.map_cons, encB, unbytesS]
  rw [if_pos (by omega), ih]
  simp
theorem bstring_spec (D : CallF) (B : BuS base H bb s l) (hl : l.length < 9223372036854775808) : Gx.Wp (strings_Builder_String k D (some ⟨bb, 0, none⟩) H) fun z => z.1 = bA l ∧ Chg (BOwn bb s) H z.2 ∧ ∃ pv, z.2.get bb = some (.cells [pv, .slice s.a s.len s.cap] 111 true 0) := by
 obtain ⟨pv, g, hpv⟩ := B.blk
 simp only [strings_Builder_String]
 have hsl : s.len = l.length := B.acc.row.1
 have gl := sldL_at (sp := none) (o := 0 + 1) g rfl
 rcases B.acc.st with ⟨rfl, rfl⟩ | ⟨b, gg⟩
 ·refine .bnd rfl (.bnd gl (.bnd rfl (.bnd rfl (.bnd gl (.bnd (show unsA 5 none ((0 : Nat) : Int) H = some (⟨#[]⟩, H) from rfl) (.of ⟨rfl, .refl _ _, pv, g⟩))))))
 ·have gb : H.get b = some (.cells (l.map encB) 5 true 0) := gg.blk
  have hp : 0 < l.length := List.length_pos_iff.2 gg.ne
  have hne : b ≠ bb := B.ne ⟨b, 0, some 2⟩ (by rw [gg.s])
  have e1 : sliceP s = some (some ⟨b, 0, none⟩) := by
   rw [gg.s]
   unfold sliceP
   have : Nat.beq l.length 0 = false := by
    cases c : Nat.beq l.length 0 with
    | false => rfl
    | true => have := Nat.eq_of_beq_eq_true c; omega
   simp only [this, cond_false]
  have e2 : unsA 5 (some ⟨b, 0, none⟩) (s.len : Int) H = some (bA l, H.set b (.cells (l.map encB) 5 true (max 0 l.length))) := by
   unfold unsA
   rw [hsl, if_neg (by omega)]
   simp only [gb]
   rw [if_pos ⟨trivial, by omega, by omega, trivial, by simp, by omega⟩, Int.toNat_natCast, List.take_of_length_le (by simp), unbytesS_map]
   rfl
  refine .bnd rfl (.bnd gl (.bnd e1 (.bnd rfl (.bnd gl (.bnd e2 (.of ⟨rfl, Chg.set (.inr (.inr ⟨⟨b, 0, some 2⟩, by rw [gg.s], rfl⟩)), pv, ?_⟩))))))
  simp only [AHeap.get_set]
  rw [if_neg (Ne.symm hne)]; exact g
end
end Gc
namespace Gc
open Go Gx
theorem pw_snoc {α : Type} {R : α → α → Prop} (tr : ∀ a b c, R a b → R b c → R a c) {l : List α} {i : Nat} {x y : α} (h : (l.take (i + 1)).Pairwise R) (hy : l[i]? = some y) (hx : l[i + 1]? = some x) (r : R y x) : (l.take (i + 2)).Pairwise R := by
 have e : l.take (i + 2) = l.take (i + 1) ++ [x] := by rw [List.take_add_one (i := i + 1), hx]; rfl
 rw [e, List.pairwise_append]
 refine ⟨h, List.pairwise_singleton _ _, fun a ha b hb => ?_⟩
 rw [List.mem_singleton] at hb
 subst hb
 have e2 : l.take (i + 1) = l.take i ++ [y] := by rw [List.take_add_one, hy]; rfl
 rw [e2] at h ha
 rcases List.mem_append.1 ha with ha | ha
 ·exact tr _ _ _ ((List.pairwise_append.1 h).2.2 a ha y (List.mem_singleton.2 rfl)) r
 ·rw [List.mem_singleton] at ha; subst ha; exact r
theorem pw_not {α : Type} {R : α → α → Prop} {l : List α} {i : Nat} {x y : α} (hy : l[i]? = some y) (hx : l[i + 1]? = some x) (r : ¬ R y x) : ¬ l.Pairwise R := fun h => by
 obtain ⟨h1, rfl⟩ := getElem_of hy
 obtain ⟨h2, rfl⟩ := getElem_of hx
 exact r (List.pairwise_iff_getElem.1 h i (i + 1) h1 h2 (by omega))
instance (a b : ByteArray) : Decidable (ltB a b) := by unfold ltB; exact inferInstance
def LessI (x y : It) : Prop := lessI x y = true
theorem LessI_trans (a b c : It) (h1 : LessI a b) (h2 : LessI b c) : LessI a c := lessI_trans h1 h2
def sizeOk (sup : List ByteArray) (its : List It) : Prop := (∀ s ∈ sup, s.size = 32) ∧ ∀ x ∈ its, okI x
def upOk (sup : List ByteArray) (its : List It) : Prop := sup.Pairwise ltB ∧ its.Pairwise LessI
open Classical in
noncomputable def chkF (sup : List ByteArray) (its : List It) : Int := if sizeOk sup its then (if upOk sup its then 0 else 4) else 1
section
variable {k : Nat} {h : AHeap} {fs fi : Slc} {sup : List ByteArray} {its : List It}
theorem dd_lessS {R : Type} {Q : R → Prop} {x y : ByteArray} {h : AHeap} {κ : Value → AHeap → Option R} {C : CallF} (hC : C = DD k) (kt : Gx.Wp (κ (.bool (decide (ltB x y))) h) Q) :
  Gx.Wp (callD C (.func (.func 97) ⟨[]⟩ ⟨[]⟩) [.string x, .string y] h κ) Q := by
 subst hC
 show Gx.Wp ((cmp_Less_string k noC x y h).bind fun r => κ (.bool r.1) r.2) Q
 have e : cmp_Less_string k noC x y h = some (decide (ltB x y), h) := by
  simp only [cmp_Less_string, cmp_isNaN_string, Option.bind_some, beq_ba, less_eq]
  simp [ltB]
 exact .bnd e kt
theorem dd_lessI {R : Type} {Q : R → Prop} (hk : 100 ≤ k) {x y : It} {h : AHeap} {κ : Value → AHeap → Option R} {C : CallF} (hC : C = DD k) (kt : ∀ h', Keeps h h' → Gx.Wp (κ (.bool (lessI x y)) h') Q) :
  Gx.Wp (callD C (.func (.func 30) ⟨[]⟩ ⟨[]⟩) [.agg ⟨itC x⟩, .agg ⟨itC y⟩] h κ) Q := by
 subst hC
 show Gx.Wp ((lookup_Less k noC x y h).bind fun r => κ (.bool r.1) r.2) Q
 refine .call (less_spec noC hk x y h) fun r ⟨q1, q2⟩ => ?_
 rw [q1]; exact kt _ q2
theorem risesS_spec (R : Row encS h fs sup) (hl : sup.length + 10 ≤ k) (hb : sup.length < 9000000000000000000) : Gx.Wp (index_rises_string k (DD k) fs (.func (.func 97) ⟨[]⟩ ⟨[]⟩) h) fun z => (z.1 = true ↔ sup.Pairwise ltB) ∧ Keeps h z.2 := by
 simp only [index_rises_string]
 refine Gx.Wp.jn fun j2 h2 => ?_
 unfold index_rises_string_l0
 obtain ⟨bot, eb⟩ := iterK_of (fun _ _ _ _ => none) (index_rises_string_l0b k (DD k) j2) (show (sup.length - 1) + 1 ≤ k by omega)
 rw [eb]
 have loop : ∀ (d i : Nat), (i + 1) + d = max sup.length 1 → (sup.take (i + 1)).Pairwise ltB → Gx.Wp (iterK bot (d + 1) (index_rises_string_l0b k (DD k) j2) fs (.func (.func 97) ⟨[]⟩ ⟨[]⟩) ((i + 1 : Nat) : Int) h) fun z => (z.1 = true ↔ sup.Pairwise ltB) ∧ Keeps h z.2 := fun d => by
  induction d with
  | zero =>
   intro i hd hp
   rw [iterK_s]; simp only [index_rises_string_l0b]
   refine .ifn (by rw [show fs.len = sup.length from R.1]; simp; omega) ?_
   rw [h2]
   rw [List.take_of_length_le (by omega)] at hp
   exact .of ⟨⟨fun _ => hp, fun _ => rfl⟩, .refl _ _⟩
  | succ d ih =>
   intro i hd hp
   rw [iterK_s]; simp only [index_rises_string_l0b]
   obtain ⟨y, hy⟩ := isome (l := sup) (i := i) (by omega)
   obtain ⟨x, hx⟩ := isome (l := sup) (i := i + 1) (by omega)
   obtain ⟨q, b1, b2⟩ := Row.ldS R hy
   obtain ⟨q', c1, c2⟩ := Row.ldS R hx
   have e1 : IntKind.wrap .i64 (((i + 1 : Nat) : Int) - 1) = (i : Int) := by rw [Gx.w64 _ (by omega)]; omega
   rw [e1]
   refine .ifp (by rw [show fs.len = sup.length from R.1]; simp; omega) (.bnd b1 (.bnd b2 (.bnd c1 (.bnd c2 (dd_lessS rfl (.bnd rfl ?_))))))
   by_cases c : ltB y x
   ·refine .ifn (by simp [c]) ?_
    rw [Gx.w1 (by omega)]
    exact ih (i + 1) (by omega) (pw_snoc ltB_trans hp hy hx c)
   ·exact .ifp (by simp [c]) (.of ⟨⟨fun e => (Bool.false_ne_true e).elim, fun e => absurd e (pw_not hy hx c)⟩, .refl _ _⟩)
 by_cases c0 : sup = []
 ·subst c0
  exact loop 0 0 rfl List.Pairwise.nil
 ·have : 0 < sup.length := List.length_pos_iff.2 c0
  obtain ⟨y, hy⟩ := isome (l := sup) (i := 0) this
  exact loop (sup.length - 1) 0 (by omega) (by rw [List.take_add_one, hy]; simp)
theorem risesI_spec (hk : 100 ≤ k) (R : RowW 6 itC h fi its) (hl : its.length + 10 ≤ k) (hb : its.length < 9000000000000000000) : Gx.Wp (index_rises_api_Item k (DD k) fi (.func (.func 30) ⟨[]⟩ ⟨[]⟩) h) fun z => (z.1 = true ↔ its.Pairwise LessI) ∧ Keeps h z.2 := by
 simp only [index_rises_api_Item]
 refine Gx.Wp.jn fun j2 h2 => ?_
 unfold index_rises_api_Item_l0
 obtain ⟨bot, eb⟩ := iterK_of (fun _ _ _ _ => none) (index_rises_api_Item_l0b k (DD k) j2) (show (its.length - 1) + 1 ≤ k by omega)
 rw [eb]
 have loop : ∀ (d i : Nat) (H : AHeap), (i + 1) + d = max its.length 1 → Keeps h H → (its.take (i + 1)).Pairwise LessI → Gx.Wp (iterK bot (d + 1) (index_rises_api_Item_l0b k (DD k) j2) fi (.func (.func 30) ⟨[]⟩ ⟨[]⟩) ((i + 1 : Nat) : Int) H) fun z => (z.1 = true ↔ its.Pairwise LessI) ∧ Keeps h z.2 := fun d => by
  induction d with
  | zero =>
   intro i H hd kp hp
   rw [iterK_s]; simp only [index_rises_api_Item_l0b]
   refine .ifn (by rw [R.len]; simp; omega) ?_
   rw [h2]
   rw [List.take_of_length_le (by omega)] at hp
   exact .of ⟨⟨fun _ => hp, fun _ => rfl⟩, kp⟩
  | succ d ih =>
   intro i H hd kp hp
   rw [iterK_s]; simp only [index_rises_api_Item_l0b]
   obtain ⟨y, hy⟩ := isome (l := its) (i := i) (by omega)
   obtain ⟨x, hx⟩ := isome (l := its) (i := i + 1) (by omega)
   obtain ⟨q, b1, b2, _⟩ := (R.keeps kp).ld itC_len (by decide) hy
   obtain ⟨q', c1, c2, _⟩ := (R.keeps kp).ld itC_len (by decide) hx
   have e1 : IntKind.wrap .i64 (((i + 1 : Nat) : Int) - 1) = (i : Int) := by rw [Gx.w64 _ (by omega)]; omega
   rw [e1]
   refine .ifp (by rw [R.len]; simp; omega) (.bnd b1 (.bnd b2 (.bnd (decI6 y) (.bnd c1 (.bnd c2 (.bnd (decI6 x) (dd_lessI (x := y) (y := x) hk rfl fun h' k' => .bnd rfl ?_)))))))
   by_cases c : lessI y x = true
   ·refine .ifn (by simp [c]) ?_
    rw [Gx.w1 (by omega)]
    exact ih (i + 1) h' (by omega) (kp.trans k') (pw_snoc LessI_trans hp hy hx c)
   ·exact .ifp (by simp [c]) (.of ⟨⟨fun e => (Bool.false_ne_true e).elim, fun e => absurd e (pw_not hy hx c)⟩, kp.trans k'⟩)
 by_cases c0 : its = []
 ·subst c0
  exact loop 0 0 h rfl (.refl _ _) List.Pairwise.nil
 ·have : 0 < its.length := List.length_pos_iff.2 c0
  obtain ⟨y, hy⟩ := isome (l := its) (i := 0) this
  exact loop (its.length - 1) 0 h (by omega) (.refl _ _) (by rw [List.take_add_one, hy]; simp)
theorem isid_spec (D : CallF) (s : ByteArray) (h : AHeap) : sha_IsId k D s h = some (decide (s.size = 32), h) := by
 simp only [sha_IsId]
 by_cases c : s.size = 32
 ·simp [c]
 ·simp [c]; omega
theorem check_file (hk : 100 ≤ k) (R : Row encS h fs sup) (S : RowW 6 itC h fi its) (hl : sup.length + its.length + 20 ≤ k) (hb : sup.length + its.length < 9000000000000000000) :
  Gx.Wp (index_check k (DD k) (fs, fi) h) fun z => z.1 = chkF sup its ∧ Keeps h z.2 := by
 simp only [index_check]
 refine Wp.newE fun H1 e1 k1 n1 g1 => Gx.Wp.jn fun j4 h4 => ?_
 have l0 : ∀ {H : AHeap}, Keeps H1 H → ldL ⟨h.next, 0, none⟩ H = some fs := fun kk => sldL_at (kk.got (by omega) g1) rfl
 have l1 : ∀ {H : AHeap}, Keeps H1 H → ldL ⟨h.next, 1, none⟩ H = some fi := fun kk => sldL_at (kk.got (by omega) g1) rfl
 refine .bnd (l0 (.refl _ _)) ?_
 unfold index_check_l1
 obtain ⟨bot, eb⟩ := iterK_of (fun _ _ _ _ _ => none) (index_check_l1b k (DD k) j4) (show sup.length + 1 ≤ k by omega)
 rw [eb]
 have loop : ∀ (d i : Nat), i + d = sup.length → (∀ s ∈ sup.take i, s.size = 32) → Gx.Wp (iterK bot (d + 1) (index_check_l1b k (DD k) j4) (some ⟨h.next, 0, none⟩) fs (fs.len : Int) (i : Int) H1) fun z => z.1 = chkF sup its ∧ Keeps h z.2 := fun d => by
  induction d with
  | succ d ih =>
   intro i hd hs
   rw [iterK_s]; simp only [index_check_l1b]
   obtain ⟨x, hx⟩ := isome (l := sup) (i := i) (by omega)
   obtain ⟨q, b1, b2⟩ := Row.ldS (R.keeps k1) hx
   refine .ifp (by rw [show fs.len = sup.length from R.1]; simp; omega) (.bnd b1 (.bnd b2 (.bnd (isid_spec _ _ _) ?_)))
   by_cases c : x.size = 32
   ·refine .ifn (by simp [c]) ?_
    rw [Gx.w1 (by omega)]
    refine ih (i + 1) (by omega) fun s hs2 => ?_
    rw [List.take_add_one, hx] at hs2
    rcases List.mem_append.1 hs2 with g | g
    ·exact hs s g
    ·have : s = x := by simpa using g
     rw [this]; exact c
   ·refine .ifp (by simp [c]) (.of ⟨?_, k1⟩)
    unfold chkF
    rw [if_neg (fun q => c (q.1 x (mem_of hx)))]
  | zero =>
   intro i hd hs
   rw [iterK_s]; simp only [index_check_l1b]
   rw [List.take_of_length_le (by omega)] at hs
   refine .ifn (by rw [show fs.len = sup.length from R.1]; simp; omega) ?_
   rw [h4]
   refine Gx.Wp.jn fun j7 h7 => .bnd rfl (.bnd (l1 (.refl _ _)) ?_)
   unfold index_check_l0
   obtain ⟨bot2, eb2⟩ := iterK_of (fun _ _ _ _ _ => none) (index_check_l0b k (DD k) j7) (show its.length + 1 ≤ k by omega)
   rw [eb2]
   have loop2 : ∀ (d i : Nat) (H : AHeap), i + d = its.length → Keeps H1 H → (∀ x ∈ its.take i, okI x) → Gx.Wp (iterK bot2 (d + 1) (index_check_l0b k (DD k) j7) (some ⟨h.next, 0, none⟩) fi (fi.len : Int) (i : Int) H) fun z => z.1 = chkF sup its ∧ Keeps h z.2 := fun d => by
    induction d with
    | succ d ih =>
     intro i H hd kp hi
     rw [iterK_s]; simp only [index_check_l0b]
     obtain ⟨x, hx⟩ := isome (l := its) (i := i) (by omega)
     obtain ⟨q, b1, b2, _⟩ := (S.keeps (k1.trans kp)).ld itC_len (by decide) hx
     refine .ifp (by rw [S.len]; simp; omega) (.bnd b1 (.bnd b2 (.bnd (decI6 x) (Wp.newE fun H3 e3 k3 n3 g3 => Wp.stL g3 rfl rfl rfl (by decide) fun H5 c5 n5 g5 => ?_))))
     have k5 : Keeps H1 H5 := kp.trans (k3.keepsS c5 fun y hy => by subst hy; omega)
     have gx : H5.get H.next = some (.cells (itC x) 57 true 0) := g5
     refine .bnd (sldA_at gx rfl) (.bnd (decI6 x) (.call (check_spec k _ x H5) fun r ⟨q1, q2⟩ => ?_))
     by_cases c : okI x
     ·have h0 : r.1 = 0 := by rw [q1]; unfold chkI; rw [if_pos c]
      refine .ifn (by simp [h0]) ?_
      rw [Gx.w1 (by omega)]
      refine ih (i + 1) r.2 (by omega) (k5.trans q2) fun z hz => ?_
      rw [List.take_add_one, hx] at hz
      rcases List.mem_append.1 hz with g | g
      ·exact hi z g
      ·have : z = x := by simpa using g
       rw [this]; exact c
     ·have h0 : r.1 = 1 := by rw [q1]; unfold chkI; rw [if_neg c]
      refine .ifp (by simp [h0]) (.of ⟨?_, k1.trans (k5.trans q2)⟩)
      rw [h0]; unfold chkF
      rw [if_neg (fun q => c (q.2 x (mem_of hx)))]
    | zero =>
     intro i H hd kp hi
     rw [iterK_s]; simp only [index_check_l0b]
     rw [List.take_of_length_le (by omega)] at hi
     refine .ifn (by rw [S.len]; simp; omega) ?_
     rw [h7]
     have hsz : sizeOk sup its := ⟨hs, hi⟩
     refine Gx.Wp.jn fun j10 h10 => .bnd rfl (.bnd (l0 kp) (.call (risesS_spec (R.keeps (k1.trans kp)) (by omega) (by omega)) fun r1 ⟨q1, e1⟩ => ?_))
     have kr := kp.trans e1
     by_cases c : sup.Pairwise ltB
     ·refine .ifn (by simp [q1.2 c]) (.bnd rfl (.bnd (l1 kr) (.call (risesI_spec hk (S.keeps (k1.trans kr)) (by omega) (by omega)) fun r2 ⟨q2, e2⟩ => ?_)))
      rw [h10]
      by_cases c2 : its.Pairwise LessI
      ·refine .ifn (by simp [q2.2 c2]) (.of ⟨?_, k1.trans (kr.trans e2)⟩)
       unfold chkF
       rw [if_pos hsz, if_pos ⟨c, c2⟩]
      ·have : r2.1 = false := by cases e : r2.1; rfl; exact absurd (q2.1 e) c2
       refine .ifp (by simp [this]) (.of ⟨?_, k1.trans (kr.trans e2)⟩)
       unfold chkF
       rw [if_pos hsz, if_neg (fun q => c2 q.2)]
     ·have : r1.1 = false := by cases e : r1.1; rfl; exact absurd (q1.1 e) c
      rw [h10]
      refine .ifp (by simp [this]) (.ifp rfl (.of ⟨?_, k1.trans kr⟩))
      unfold chkF
      rw [if_pos hsz, if_neg (fun q => c q.1)]
   exact loop2 its.length 0 H1 (by omega) (.refl _ _) (fun x hx => by simp at hx)
 exact loop sup.length 0 (by omega) (fun x hx => by simp at hx)
end
end Gc
namespace Gc
open Go Gx
section
variable {k : Nat} {h : AHeap} {fs fi : Slc} {sup : List ByteArray} {its : List It}
end
end Gc
namespace Gc
open Go Gx
def lineB (x : It) : List UInt8 := bl x.1 ++ bl x.2.1 ++ [UInt8.ofNat x.2.2.1.toNat] ++ leb x.2.2.2.1.toNat ++ leb x.2.2.2.2.1.toNat ++ leb x.2.2.2.2.2.toNat
theorem leb3 {n : Nat} (h : n ≤ 65536) : (leb n).length ≤ 3 := leb_len 2 n (by omega)
theorem lineB_len {x : It} (h : okI x) : (lineB x).length ≤ 74 := by
 obtain ⟨h1, h2, h3, h4, h5, h6⟩ := h
 have a := leb3 (n := x.2.2.2.1.toNat) (by omega)
 have b := leb3 (n := x.2.2.2.2.1.toNat) (by omega)
 have c := leb3 (n := x.2.2.2.2.2.toNat) (by omega)
 have e1 : (bl x.1).length = 32 := h1
 have e2 : (bl x.2.1).length = 32 := h2
 simp only [lineB, List.length_append, List.length_singleton]
 omega
theorem bA_bl (s : ByteArray) : bA (bl s) = s := rfl
theorem oneB {H : AHeap} {b : Nat} {v : Int} {e : TypeId} (hg : H.get b = some (.cells [.int .u8 v] e true 0)) : bytesOf H ⟨some ⟨b, 0, some 0⟩, 1, 1⟩ = some (bA [UInt8.ofNat v.toNat]) := by
 simp only [bytesOf]
 rw [rdL_ok hg (by simp)]
 rfl
section
variable {k : Nat} {h : AHeap}
theorem line_spec (D : CallF) (hk : 20 ≤ k) {x : It} (ok : okI x) (h : AHeap) : Gx.Wp (index_line k D x h) fun z => z.1 = bA (lineB x) ∧ Keeps h z.2 := by
 have hll := lineB_len ok
 obtain ⟨s1, s2, s3, s4, s5, s6⟩ := ok
 simp only [index_line]
 refine Wp.newE fun h1 e1 k1 n1 g1 => ?_
 obtain ⟨h2, e2⟩ : ∃ h2, h2 = AHeap.resv h1 1 := ⟨_, rfl⟩
 rw [← e2]
 have k2 : Keeps h1 h2 := ⟨by rw [e2]; show h1.next ≤ h1.next + 1; omega, fun b hb _ => by rw [e2]; rfl⟩
 have n2 : h2.next = h1.next + 1 := by rw [e2]; rfl
 have gx : h2.get h.next = some (.cells (itC x) 57 true 0) := k2.got (by omega) g1
 have pi : ∀ {H : AHeap}, Keeps h2 H → ∀ (o : Nat) (n : Int), (itC x)[o]? = some (.int .i64 n) → ldI .i64 ⟨h.next, o, none⟩ H = some n := fun kk o n e => sldI_at (kk.got (by omega) gx) e
 have ps : ∀ {H : AHeap}, Keeps h2 H → ∀ (o : Nat) (t : ByteArray), (itC x)[o]? = some (.string t) → ldS ⟨h.next, o, none⟩ H = some t := fun kk o t e => by
  have := kk.got (by omega) gx
  simp [ldS, AHeap.rd1, this, e, decS]
 obtain ⟨a, ea⟩ : ∃ a : Nat, x.2.2.2.1 = (a : Int) := ⟨x.2.2.2.1.toNat, by omega⟩
 obtain ⟨b, eb⟩ : ∃ b : Nat, x.2.2.2.2.1 = (b : Int) := ⟨x.2.2.2.2.1.toNat, by omega⟩
 obtain ⟨c, ec⟩ : ∃ c : Nat, x.2.2.2.2.2 = (c : Int) := ⟨x.2.2.2.2.2.toNat, by omega⟩
 have k0 : Keeps h2 h2 := .refl _ _
 have i3 : (itC x)[3]? = some (.int .i64 (a : Int)) := by rw [← ea]; rfl
 have i4 : (itC x)[4]? = some (.int .i64 (b : Int)) := by rw [← eb]; rfl
 have i5 : (itC x)[5]? = some (.int .i64 (c : Int)) := by rw [← ec]; rfl
 refine .bnd (pi k0 3 _ i3) (.call (ishort_spec D hk a (by omega) h2) fun r4 ⟨q4, k4⟩ => .bnd (pi k4 4 _ i4) (.gp (ssw1 (by rw [pi k0 4 _ i4]; rfl)) (.call (ishort_spec D hk b (by omega) r4.2) fun r8 ⟨q8, k8'⟩ => ?_)))
 have k8 := k4.trans k8'
 refine .bnd (pi k8 5 _ i5) (.gp (fun H hH => ?_) (.call (ishort_spec D hk c (by omega) r8.2) fun r12 ⟨q12, k12'⟩ => ?_))
 ·simp only [List.mem_cons, List.not_mem_nil, or_false] at hH
  dsimp only
  rcases hH with e | e
  ·rw [e, pi k4 5 _ i5]; rfl
  ·rw [e, pi k0 5 _ i5]; rfl
 have k12 := k8.trans k12'
 have hs : ∀ (o : Nat) (t : ByteArray), (itC x)[o]? = some (.string t) → SameW [r8.2, r4.2, h2] (fun H => (ldS ⟨h.next, o, none⟩ H).bind fun y => some (.string y)) (.string t) := fun o t e H hH => by
  simp only [List.mem_cons, List.not_mem_nil, or_false] at hH
  dsimp only
  rcases hH with e2 | e2 | e2
  ·rw [e2, ps k8 o t e]; rfl
  ·rw [e2, ps k4 o t e]; rfl
  ·rw [e2, ps k0 o t e]; rfl
 refine .bnd (ps k12 0 x.1 rfl) (.gp (hs 0 x.1 rfl) (.bnd (ps k12 1 x.2.1 rfl) (.gp (hs 1 x.2.1 rfl) (.ifp (by omega) (.bnd (pi k12 2 x.2.2.1 rfl) (.gp (fun H hH => ?_) ?_))))))
 ·simp only [List.mem_cons, List.not_mem_nil, or_false] at hH
  dsimp only
  rcases hH with e | e | e
  ·rw [e, pi k8 2 _ rfl]; rfl
  ·rw [e, pi k4 2 _ rfl]; rfl
  ·rw [e, pi k0 2 _ rfl]; rfl
 have nk := k12.nx
 obtain ⟨h22, e22⟩ : ∃ h22, h22 = AHeap.set r12.2 (h1.next + 0) (.cells [.int .u8 (IntKind.wrap .u8 x.2.2.1)] 5 true 0) := ⟨_, rfl⟩
 rw [← e22]
 have g22 : h22.get (h1.next + 0) = some (.cells [.int .u8 (IntKind.wrap .u8 x.2.2.1)] 5 true 0) := by rw [e22]; simp
 have ew : IntKind.wrap .u8 x.2.2.1 = x.2.2.1 := Gx.w8 _ (by omega)
 have kz : Keeps h h22 := by rw [e22]; exact Keeps.set (Chg.trans (Chg.trans k1 k2) k12) (by omega)
 refine .bnd (oneB g22) (.gp ⟨_, g22, fun H hH => by dsimp only; rw [oneB hH]; rfl⟩ ?_)
 rw [q4, q8, q12, ew]
 have z1 : (x.1 ++ x.2.1) = bA (bl x.1 ++ bl x.2.1) := by rw [← bA_app, bA_bl, bA_bl]
 rw [z1, bA_app, bA_app, bA_app, bA_app]
 have zl : (lineB x) = ((((bl x.1 ++ bl x.2.1) ++ [UInt8.ofNat x.2.2.1.toNat]) ++ leb a) ++ leb b) ++ leb c := by
  unfold lineB
  rw [ea, eb, ec]; rfl
 rw [zl] at hll
 simp only [bA_size, List.length_append] at hll ⊢
 refine .ifp (by omega) (.ifp (by omega) (.ifp (by omega) (.ifp (by omega) (.of ⟨?_, kz⟩))))
 rw [zl]
end
end Gc
namespace Gc
open Go Gx
def headB : List UInt8 := [71, 82, 84, 73, 1]
def supB (sup : List ByteArray) : List UInt8 := sup.flatMap bl
def itsB (its : List It) : List UInt8 := its.flatMap lineB
def textB (sup : List ByteArray) (its : List It) : List UInt8 := headB ++ leb sup.length ++ supB sup ++ leb its.length ++ itsB its
theorem supB_len {sup : List ByteArray} (h : ∀ s ∈ sup, s.size = 32) : (supB sup).length = 32 * sup.length := by
 induction sup with
 | nil => rfl
 | cons s sup ih =>
  have e : (bl s).length = 32 := h s (List.mem_cons_self ..)
  simp only [supB, List.flatMap_cons, List.length_append, List.length_cons]
  have := ih fun t ht => h t (List.mem_cons_of_mem _ ht)
  unfold supB at this
  omega
theorem itsB_len {its : List It} (h : ∀ x ∈ its, okI x) : (itsB its).length ≤ 74 * its.length := by
 induction its with
 | nil => exact Nat.le_refl _
 | cons x its ih =>
  have e := lineB_len (h x (List.mem_cons_self ..))
  simp only [itsB, List.flatMap_cons, List.length_append, List.length_cons]
  have := ih fun t ht => h t (List.mem_cons_of_mem _ ht)
  unfold itsB at this
  omega
theorem textB_len {sup : List ByteArray} {its : List It} (h : sizeOk sup its) (h1 : sup.length ≤ 4096) (h2 : its.length ≤ 4096) : (textB sup its).length ≤ 500000 := by
 have a := leb_len 1 sup.length (by omega)
 have b := leb_len 1 its.length (by omega)
 have c := supB_len h.1
 have d := itsB_len h.2
 simp only [textB, List.length_append, headB, List.length_cons, List.length_nil]
 omega
theorem dec65 (n : Nat) : decide ((n : Int) ≤ 65536) = decide (n ≤ 65536) := by
 by_cases h : n ≤ 65536
 ·rw [decide_eq_true h, decide_eq_true (by omega)]
 ·rw [decide_eq_false h, decide_eq_false (by omega)]
section
variable {k : Nat} {h : AHeap} {fs fi : Slc} {sup : List ByteArray} {its : List It}
theorem text_spec (D : CallF) (hk : 5000 ≤ k) (R : Row encS h fs sup) (S : RowW 6 itC h fi its) (ok : sizeOk sup its) (hb : sup.length + its.length < 9000000000000000000) :
  Gx.Wp (index_text k D (fs, fi) h) fun z => (if 4096 < sup.length ∨ 4096 < its.length then z.1 = (⟨#[]⟩, false) else z.1 = (bA (textB sup its), decide ((textB sup its).length ≤ 65536))) ∧ Keeps h z.2 := by
 simp only [index_text]
 have fl : (fs.len : Int) = (sup.length : Int) := by rw [show fs.len = sup.length from R.1]
 have il : (fi.len : Int) = (its.length : Int) := by rw [S.len]
 refine Wp.newE fun h1 e1 k1 n1 g1 => ?_
 have l0 : ∀ {H : AHeap}, Keeps h1 H → ldL ⟨h.next, 0, none⟩ H = some fs := fun kk => sldL_at (kk.got (by omega) g1) rfl
 have l1 : ∀ {H : AHeap}, Keeps h1 H → ldL ⟨h.next, 1, none⟩ H = some fi := fun kk => sldL_at (kk.got (by omega) g1) rfl
 refine .bnd (l0 (.refl _ _)) (.bnd (l1 (.refl _ _)) ?_)
 by_cases c : 4096 < sup.length ∨ 4096 < its.length
 ·refine .ifp ?_ (.of ⟨by rw [if_pos c], k1⟩)
  rw [fl, il]
  by_cases c2 : its.length > sup.length
  ·rw [if_pos (by omega)]; simp; omega
  ·rw [if_neg (by omega)]; simp; omega
 refine Gx.Wp.mono (Q := fun z => z.1 = (bA (textB sup its), decide ((textB sup its).length ≤ 65536)) ∧ Keeps h z.2) ?_ fun z hz => by rw [if_neg c]; exact hz
 have c1 : sup.length ≤ 4096 := by omega
 have c2 : its.length ≤ 4096 := by omega
 have htl := textB_len ok c1 c2
 refine .ifn ?_ (Wp.newE fun h5 e5 k5 n5 g5 => ?_)
 ·rw [fl, il]
  by_cases c2 : its.length > sup.length
  ·rw [if_pos (by omega)]; simp; omega
  ·rw [if_neg (by omega)]; simp; omega
 have B5 : BuS h1.next h5 h1.next ⟨none, 0, 0⟩ [] := BuS.new h1 g5 n5
 refine .bnd (l0 k5) ?_
 rw [fl]
 refine .call (ishort_spec D (by omega) sup.length (by omega) h5) fun r7 ⟨q7, k7⟩ => ?_
 rw [q7]
 have a3 := leb_len 1 sup.length (by omega)
 have b3 := leb_len 1 its.length (by omega)
 have sl := supB_len ok.1
 have tl := itsB_len ok.2
 refine .ifp (by rw [bA_size]; show 5 + _ ≤ _; omega) ?_
 have eh : ((⟨#[71, 82, 84, 73, 1]⟩ : ByteArray) ++ bA (leb sup.length)) = bA (headB ++ leb sup.length) := by rw [← bA_app]; rfl
 rw [eh]
 have kh7 : Keeps h1 r7.2 := k5.trans k7
 refine .call (write_spec D (B5.keeps k7) _ (by rw [bA_size, List.length_append]; show 2 * (0 + (5 + _)) ≤ _; omega)) fun r8 ⟨s8, B8, c8, o8⟩ => ?_
 rw [List.nil_append, show bl (bA (headB ++ leb sup.length)) = headB ++ leb sup.length from rfl] at B8
 have kh8 : Keeps h1 r8.2 := kh7.keepsS c8 fun y hy => ((B5.keeps k7).own hy).1
 refine Gx.Wp.jn fun j12 h12 => .bnd (l0 kh8) ?_
 unfold index_text_l1
 obtain ⟨bot, eb⟩ := iterK_of (fun _ _ _ _ _ _ => none) (index_text_l1b k D j12) (show sup.length + 1 ≤ k by omega)
 rw [eb]
 have loop : ∀ (d i : Nat) (s : Slc) (H : AHeap), i + d = sup.length → Keeps h1 H → BuS h1.next H h1.next s (headB ++ leb sup.length ++ supB (sup.take i)) → Gx.Wp (iterK bot (d + 1) (index_text_l1b k D j12) (some ⟨h.next, 0, none⟩) (some ⟨h1.next, 0, none⟩) fs (fs.len : Int) (i : Int) H) fun z => z.1 = (bA (textB sup its), decide ((textB sup its).length ≤ 65536)) ∧ Keeps h z.2 := fun d => by
  induction d with
  | succ d ih =>
   intro i s H hd kp B
   rw [iterK_s]; simp only [index_text_l1b]
   obtain ⟨x, hx⟩ := isome (l := sup) (i := i) (by omega)
   obtain ⟨q, b1, b2⟩ := Row.ldS (R.keeps (k1.trans kp)) hx
   have hx32 := ok.1 x (mem_of hx)
   have tl2 : (supB (sup.take i)).length = 32 * (sup.take i).length := supB_len fun s hs => ok.1 s (List.mem_of_mem_take hs)
   rw [List.length_take] at tl2
   refine .ifp (by rw [fl]; simp; omega) (.bnd b1 (.bnd b2 (.call (write_spec D B x (by rw [List.length_append, List.length_append, tl2, hx32]; show 2 * (5 + _ + _ + _) ≤ _; omega)) fun r ⟨s2, B2, cc, o2⟩ => ?_)))
   rw [Gx.w1 (by omega)]
   refine ih (i + 1) s2 r.2 (by omega) (kp.keepsS cc fun y hy => (B.own hy).1) ?_
   have : supB (sup.take (i + 1)) = supB (sup.take i) ++ bl x := by rw [List.take_add_one, hx]; simp [supB]
   rw [this, ← List.append_assoc]; exact B2
  | zero =>
   intro i s H hd kp B
   rw [iterK_s]; simp only [index_text_l1b]
   rw [List.take_of_length_le (by omega)] at B
   refine .ifn (by rw [fl]; simp; omega) ?_
   rw [h12]
   refine .bnd rfl (.bnd (show ldL ⟨h.next, 0 + 1, none⟩ H = some fi from l1 kp) ?_)
   rw [il]
   refine .call (ishort_spec D (by omega) its.length (by omega) H) fun r15 ⟨q15, k15⟩ => ?_
   rw [q15]
   refine .call (write_spec D (B.keeps k15) _ (by rw [bA_size, List.length_append, List.length_append, sl]; show 2 * (5 + _ + _ + _) ≤ _; omega)) fun r16 ⟨s16, B16, c16, o16⟩ => ?_
   rw [show bl (bA (leb its.length)) = leb its.length from rfl] at B16
   have kp16 : Keeps h1 r16.2 := (kp.trans k15).keepsS c16 fun y hy => ((B.keeps k15).own hy).1
   refine Gx.Wp.jn fun j19 h19 => .bnd rfl (.bnd (show ldL ⟨h.next, 0 + 1, none⟩ r16.2 = some fi from l1 kp16) ?_)
   unfold index_text_l0
   obtain ⟨bot2, eb2⟩ := iterK_of (fun _ _ _ _ _ => none) (index_text_l0b k D j19) (show its.length + 1 ≤ k by omega)
   rw [eb2]
   have loop2 : ∀ (d i : Nat) (s : Slc) (H : AHeap), i + d = its.length → Keeps h1 H → BuS h1.next H h1.next s (headB ++ leb sup.length ++ supB sup ++ leb its.length ++ itsB (its.take i)) → Gx.Wp (iterK bot2 (d + 1) (index_text_l0b k D j19) (some ⟨h1.next, 0, none⟩) fi (fi.len : Int) (i : Int) H) fun z => z.1 = (bA (textB sup its), decide ((textB sup its).length ≤ 65536)) ∧ Keeps h z.2 := fun d => by
    induction d with
    | succ d ih =>
     intro i s H hd kp B
     rw [iterK_s]; simp only [index_text_l0b]
     obtain ⟨x, hx⟩ := isome (l := its) (i := i) (by omega)
     obtain ⟨q, b1, b2, _⟩ := (S.keeps (k1.trans kp)).ld itC_len (by decide) hx
     have okx := ok.2 x (mem_of hx)
     refine .ifp (by rw [il]; simp; omega) (.bnd b1 (.bnd b2 (.bnd (decI6 x) (Wp.newE fun H3 e3 k3 n3 g3 => Wp.stL g3 rfl rfl rfl (by decide) fun H5 c5 n5 g5 => ?_))))
     have k5 : Keeps H H5 := k3.keepsS c5 fun y hy => by subst hy; omega
     have gx : H5.get H.next = some (.cells (itC x) 57 true 0) := g5
     refine .bnd (sldA_at gx rfl) (.bnd (decI6 x) (.call (line_spec D (by omega) okx H5) fun r ⟨q1, q2⟩ => ?_))
     rw [q1]
     have lx := lineB_len okx
     have tl3 : (itsB (its.take i)).length ≤ 74 * (its.take i).length := itsB_len fun s hs => ok.2 s (List.mem_of_mem_take hs)
     rw [List.length_take] at tl3
     have B5 := B.keeps (k5.trans q2)
     refine .call (write_spec D B5 (bA (lineB x)) (by simp only [bA_size, List.length_append, sl, headB, List.length_cons, List.length_nil]; omega)) fun r2 ⟨s2, B2, cc, o2⟩ => ?_
     rw [Gx.w1 (by omega)]
     refine ih (i + 1) s2 r2.2 (by omega) ((kp.trans (k5.trans q2)).keepsS cc fun y hy => (B5.own hy).1) ?_
     have : itsB (its.take (i + 1)) = itsB (its.take i) ++ lineB x := by rw [List.take_add_one, hx]; simp [itsB]
     rw [this, ← List.append_assoc]; exact B2
    | zero =>
     intro i s H hd kp B
     rw [iterK_s]; simp only [index_text_l0b]
     rw [List.take_of_length_le (by omega)] at B
     refine .ifn (by rw [il]; simp; omega) ?_
     rw [h19]
     have eT : headB ++ leb sup.length ++ supB sup ++ leb its.length ++ itsB its = textB sup its := rfl
     rw [eT] at B
     refine .call (bstring_spec D B (by omega)) fun r20 ⟨q20, c20, pv, g20⟩ => ?_
     have hsl : s.len = (textB sup its).length := B.acc.row.1
     have elen : strings_Builder_Len k D (some ⟨h1.next, 0, none⟩) r20.2 = some (((textB sup its).length : Int), r20.2) := by
      simp only [strings_Builder_Len]
      exact bnd rfl (bnd (sldL_at (o := 0 + 1) g20 rfl) (by rw [hsl]))
     refine .bnd elen (.of ⟨?_, k1.trans (kp.keepsS c20 fun y hy => (B.own hy).1)⟩)
     rw [q20]
     dsimp only
     rw [dec65]
   exact loop2 its.length 0 s16 r16.2 (by omega) kp16 (by simpa [itsB] using B16)
 exact loop sup.length 0 s8 r8.2 (by omega) kh8 (by simpa [supB] using B8)
def tooB (sup : List ByteArray) (its : List It) : Prop := 4096 < sup.length ∨ 4096 < its.length ∨ 65536 < (textB sup its).length
open Classical in
noncomputable def encR (sup : List ByteArray) (its : List It) : ByteArray × Int := if chkF sup its = 0 then (if tooB sup its then (⟨#[]⟩, 2) else (bA (textB sup its), 0)) else (⟨#[]⟩, chkF sup its)
theorem chk_zero {sup : List ByteArray} {its : List It} : chkF sup its = 0 ↔ sizeOk sup its ∧ upOk sup its := by
 unfold chkF
 by_cases a : sizeOk sup its
 ·by_cases b : upOk sup its
  ·rw [if_pos a, if_pos b]; simp [a, b]
  ·rw [if_pos a, if_neg b]; simp [b]
 ·rw [if_neg a]; simp [a]
theorem encR_ok {sup : List ByteArray} {its : List It} (c : chkF sup its = 0) (t : ¬ tooB sup its) : encR sup its = (bA (textB sup its), 0) := by unfold encR; rw [if_pos c, if_neg t]
theorem encR_long {sup : List ByteArray} {its : List It} (c : chkF sup its = 0) (t : tooB sup its) : encR sup its = (⟨#[]⟩, 2) := by unfold encR; rw [if_pos c, if_pos t]
theorem encR_bad {sup : List ByteArray} {its : List It} (c : ¬ chkF sup its = 0) : encR sup its = (⟨#[]⟩, chkF sup its) := by unfold encR; rw [if_neg c]
theorem encode_spec (hk : 5000 ≤ k) (R : Row encS h fs sup) (S : RowW 6 itC h fi its) (hl : sup.length + its.length + 20 ≤ k) (hb : sup.length + its.length < 9000000000000000000) :
  Gx.Wp (index_Encode k (DD k) (fs, fi) h) fun z => z.1 = encR sup its ∧ Keeps h z.2 := by
 simp only [index_Encode]
 refine Wp.newE fun h1 e1 k1 n1 g1 => ?_
 have ld : ∀ {H : AHeap}, Keeps h1 H → ldA 2 ⟨h.next, 0, none⟩ H = some [.slice fs.a fs.len fs.cap, .slice fi.a fi.len fi.cap] := fun kk => sldA_at (kk.got (by omega) g1) rfl
 have dc : decC [.l, .l] [.slice fs.a fs.len fs.cap, .slice fi.a fi.len fi.cap] = some (fs, fi) := rfl
 refine .bnd (ld (.refl _ _)) (.bnd dc (.call (check_file (by omega) (R.keeps k1) (S.keeps k1) hl hb) fun r4 ⟨q4, k4⟩ => ?_))
 by_cases c : chkF sup its = 0
 ·have ok := (chk_zero.1 c).1
  refine .ifn (by rw [q4, c]; decide) (.bnd (ld k4) (.bnd dc (.call (text_spec _ hk (R.keeps (k1.trans k4)) (S.keeps (k1.trans k4)) ok hb) fun r7 ⟨q7, k7⟩ => ?_)))
  have kz := (k1.trans k4).trans k7
  by_cases c2 : 4096 < sup.length ∨ 4096 < its.length
  ·rw [if_pos c2] at q7
   exact .ifp (by rw [q7]; rfl) (.of ⟨(encR_long c (Or.elim c2 (fun e => Or.inl e) fun e => Or.inr (Or.inl e))).symm, kz⟩)
  ·rw [if_neg c2] at q7
   by_cases c3 : 65536 < (textB sup its).length
   ·exact .ifp (by rw [q7]; simp; omega) (.of ⟨(encR_long c (Or.inr (Or.inr c3))).symm, kz⟩)
   ·refine .ifn (by rw [q7]; simp; omega) (.of ⟨?_, kz⟩)
    rw [q7]
    refine (encR_ok c fun q => ?_).symm
    rcases q with q | q | q
    ·exact c2 (Or.inl q)
    ·exact c2 (Or.inr q)
    ·exact c3 q
 ·exact .ifp (by rw [q4]; simpa using c) (.of ⟨by rw [q4, encR_bad c], k1.trans k4⟩)
theorem works16 (hk : 5000 ≤ k) (h : AHeap) : Gx.Wp (law16_works k (DD k) h) fun z => z.1 = true ∧ Keeps h z.2 := by
 simp only [law16_works]
 refine .call (encode_spec (sup := []) (its := []) hk (Row.nil _ _ _ _) (RowW.nil _ _ _ _ _) (by simp; omega) (by decide)) fun r ⟨q, kk⟩ => ?_
 have e : encR [] [] = (bA (textB [] []), 0) := by
  unfold encR
  rw [if_pos (chk_zero.2 ⟨⟨fun s hs => (List.not_mem_nil hs).elim, fun s hs => (List.not_mem_nil hs).elim⟩, List.Pairwise.nil, List.Pairwise.nil⟩), if_neg]
  have l0 : leb 0 = [0] := leb_lt (by decide)
  rintro (q | q | q)
  ·simp at q
  ·simp at q
  ·simp [textB, headB, supB, itsB, l0] at q
 have l0 : leb 0 = [0] := leb_lt (by decide)
 rw [q, e]
 refine .ifp rfl (.of ⟨?_, kk⟩)
 show (((bA (textB [] [])).size : Int) == 7) = true
 rw [bA_size]
 simp [textB, headB, supB, itsB, l0]
end
end Gc
namespace Gc
open Go Gx
def lebQ : Nat → Bool → List UInt8 → Option (Nat × List UInt8)
 | 0, _, _ => none
 | _ + 1, _, [] => none
 | d + 1, f, c :: l => if 128 ≤ c.toNat then (lebQ d false l).map fun p => (c.toNat - 128 + 128 * p.1, p.2) else if c.toNat = 0 ∧ f = false then none else some (c.toNat, l)
theorem lebQ_leb : ∀ {d : Nat} {f : Bool} {l : List UInt8} {n : Nat} {r : List UInt8}, lebQ d f l = some (n, r) → l = leb n ++ r ∧ (f = false → 0 < n)
 | 0, _, _, _, _, h => by simp [lebQ] at h
 | _ + 1, _, [], _, _, h => by simp [lebQ] at h
 | d + 1, f, c :: l, n, r, h => by
  unfold lebQ at h
  have hc := c.toNat_lt
  split at h
  ·rename_i hge
   rw [Option.map_eq_some_iff] at h
   obtain ⟨⟨m, r2⟩, h1, h2⟩ := h
   cases h2
   obtain ⟨q1, q2⟩ := lebQ_leb h1
   have hm : 0 < m := q2 rfl
   refine ⟨?_, fun _ => by omega⟩
   rw [leb_ge (by omega), show (c.toNat - 128 + 128 * m) % 128 + 128 = c.toNat by omega, show (c.toNat - 128 + 128 * m) / 128 = m by omega, q1, UInt8.ofNat_toNat]
   rfl
  ·rename_i hlt
   split at h
   ·cases h
   ·rename_i hz
    cases h
    refine ⟨?_, fun hf => ?_⟩
    ·rw [leb_lt (by omega), UInt8.ofNat_toNat]; rfl
    ·by_cases e : c.toNat = 0
     ·exact absurd ⟨e, hf⟩ hz
     ·omega
theorem lebQ_of (d : Nat) : ∀ {n : Nat} {f : Bool} (r : List UInt8), n < 128 ^ (d + 1) → (f = false → 0 < n) → lebQ (d + 1) f (leb n ++ r) = some (n, r) := by
 have one : ∀ (d n : Nat) (f : Bool) (r : List UInt8), n < 128 → (f = false → 0 < n) → lebQ (d + 1) f (leb n ++ r) = some (n, r) := fun d n f r c hf => by
  rw [leb_lt c]
  show (if 128 ≤ (UInt8.ofNat n).toNat then _ else if (UInt8.ofNat n).toNat = 0 ∧ f = false then none else some ((UInt8.ofNat n).toNat, r)) = _
  have e : (UInt8.ofNat n).toNat = n := by simp [UInt8.toNat_ofNat']; omega
  rw [e, if_neg (by omega), if_neg (fun q => by have := hf q.2; omega)]
 induction d with
 | zero => exact fun {n f} r h hf => one 0 n f r (by simpa using h) hf
 | succ d ih =>
  intro n f r h hf
  by_cases c : n < 128
  ·exact one (d + 1) n f r c hf
  ·rw [leb_ge c]
   have hlt : n % 128 + 128 < 256 := by omega
   have e : (UInt8.ofNat (n % 128 + 128)).toNat = n % 128 + 128 := by simp [UInt8.toNat_ofNat']; omega
   show (if 128 ≤ (UInt8.ofNat (n % 128 + 128)).toNat then (lebQ (d + 1) false (leb (n / 128) ++ r)).map (fun p => ((UInt8.ofNat (n % 128 + 128)).toNat - 128 + 128 * p.1, p.2)) else _) = _
   rw [e, if_pos (by omega), ih r ((Nat.div_lt_iff_lt_mul (by decide)).2 (by rw [Nat.pow_succ] at h; exact h)) (fun _ => by omega)]
   simp
   omega
def pS (most : Nat) (l : List UInt8) : Option (Nat × List UInt8) := (lebQ 9 true l).bind fun p => if most < p.1 then none else some p
abbrev Rd := Option (List UInt8)
def opS (most : Nat) (s : Rd) : Nat × Rd := match s.bind (pS most) with
 | some (n, l) => (n, some l)
 | none => (0, none)
def opB (n : Nat) (s : Rd) : ByteArray × Rd := match s with
 | some l => if n ≤ l.length then (bA (l.take n), some (l.drop n)) else (⟨#[]⟩, none)
 | none => (⟨#[]⟩, none)
def opF (s : Rd) : Nat × Rd := match s with
 | some (c :: l) => (c.toNat, some l)
 | _ => (0, none)
def opI (s : Rd) : It × Rd :=
 let a := opB 32 s
 let b := opB 32 a.2
 let c := opF b.2
 let d := opS 65536 c.2
 let e := opS 65536 d.2
 let f := opS 65536 e.2
 ((a.1, b.1, (c.1 : Int), (d.1 : Int), (e.1 : Int), (f.1 : Int)), f.2)
def runL {α : Type} (op : Rd → α × Rd) : Nat → Rd → List α × Rd
 | 0, s => ([], s)
 | n + 1, s => let p := op s; match p.2 with
  | none => ([], none)
  | some l => let q := runL op n (some l); (p.1 :: q.1, q.2)
def opFile (s : Rd) : (List ByteArray × List It) × Rd :=
 let a := opS 4096 s
 let b := runL (opB 32) a.1 a.2
 let c := opS 4096 b.2
 let d := runL opI c.1 c.2
 ((b.1, d.1), d.2)
open Classical in
noncomputable def decF (s : List UInt8) : Option (List ByteArray × List It) :=
 if s.length ≤ 65536 ∧ s.take 5 = headB then (if (opFile (some (s.drop 5))).2 = some [] ∧ chkF (opFile (some (s.drop 5))).1.1 (opFile (some (s.drop 5))).1.2 = 0 then some (opFile (some (s.drop 5))).1 else none) else none
theorem pS_leb {most n : Nat} {l r : List UInt8} (h : pS most l = some (n, r)) : l = leb n ++ r ∧ n ≤ most := by
 unfold pS at h
 rw [Option.bind_eq_some_iff] at h
 obtain ⟨p, h1, h2⟩ := h
 split at h2
 ·cases h2
 ·cases h2
  exact ⟨(lebQ_leb h1).1, by omega⟩
theorem pS_of {most n : Nat} (r : List UInt8) (h : n ≤ most) (hn : n < 128 ^ 9) : pS most (leb n ++ r) = some (n, r) := by
 unfold pS
 rw [lebQ_of 8 r hn (fun e => by cases e)]
 show (if most < n then none else some (n, r)) = _
 rw [if_neg (by omega)]
theorem opS_of {most n : Nat} (r : List UInt8) (h : n ≤ most) (hn : n < 128 ^ 9) : opS most (some (leb n ++ r)) = (n, some r) := by
 unfold opS
 rw [show (some (leb n ++ r)).bind (pS most) = some (n, r) from pS_of r h hn]
theorem opB_some {n : Nat} {l : List UInt8} (h : n ≤ l.length) : opB n (some l) = (bA (l.take n), some (l.drop n)) := by simp [opB, h]
theorem opB_of (s : ByteArray) (r : List UInt8) {n : Nat} (h : s.size = n) : opB n (some (bl s ++ r)) = (s, some r) := by
 have e : (bl s).length = n := h
 rw [opB_some (by rw [List.length_append]; omega)]
 rw [← e, List.take_left', List.drop_left']
 ·rfl
 ·rfl
 ·rfl
theorem opI_of {x : It} (ok : okI x) (r : List UInt8) : opI (some (lineB x ++ r)) = (x, some r) := by
 obtain ⟨s1, s2, s3, s4, s5, s6⟩ := ok
 unfold opI lineB
 simp only [List.append_assoc]
 rw [opB_of x.1 _ s1]
 dsimp only
 rw [opB_of x.2.1 _ s2]
 dsimp only
 have ek : (UInt8.ofNat x.2.2.1.toNat).toNat = x.2.2.1.toNat := by simp [UInt8.toNat_ofNat']; omega
 have ef : ∀ (c : UInt8) (m : List UInt8), opF (some ([c] ++ m)) = (c.toNat, some m) := fun _ _ => rfl
 rw [ef]
 dsimp only
 rw [ek]
 rw [opS_of _ (by omega) (by omega)]
 dsimp only
 rw [opS_of _ (by omega) (by omega)]
 dsimp only
 rw [opS_of _ (by omega) (by omega)]
 obtain ⟨a, b, c, d, e, f⟩ := x
 simp only [Prod.mk.injEq, true_and, and_true]
 dsimp only at s3 s4 s5 s6
 omega
theorem runB_of : ∀ {sup : List ByteArray} (r : List UInt8), (∀ s ∈ sup, s.size = 32) → runL (opB 32) sup.length (some (supB sup ++ r)) = (sup, some r)
 | [], r, _ => rfl
 | s :: sup, r, h => by
  have e : supB (s :: sup) ++ r = bl s ++ (supB sup ++ r) := by simp [supB]
  rw [e, List.length_cons]
  unfold runL
  rw [opB_of s _ (h s (List.mem_cons_self ..))]
  dsimp only
  rw [runB_of r fun t ht => h t (List.mem_cons_of_mem _ ht)]
theorem runI_of : ∀ {its : List It} (r : List UInt8), (∀ x ∈ its, okI x) → runL opI its.length (some (itsB its ++ r)) = (its, some r)
 | [], r, _ => rfl
 | x :: its, r, h => by
  have e : itsB (x :: its) ++ r = lineB x ++ (itsB its ++ r) := by simp [itsB]
  rw [e, List.length_cons]
  unfold runL
  rw [opI_of (h x (List.mem_cons_self ..))]
  dsimp only
  rw [runI_of r fun t ht => h t (List.mem_cons_of_mem _ ht)]
theorem decF_text {sup : List ByteArray} {its : List It} (c : chkF sup its = 0) (t : ¬ tooB sup its) : decF (textB sup its) = some (sup, its) := by
 have ok := (chk_zero.1 c).1
 have t1 : sup.length ≤ 4096 := Nat.le_of_not_lt fun q => t (.inl q)
 have t2 : its.length ≤ 4096 := Nat.le_of_not_lt fun q => t (.inr (.inl q))
 have t3 : (textB sup its).length ≤ 65536 := Nat.le_of_not_lt fun q => t (.inr (.inr q))
 have e1 : (textB sup its).take 5 = headB := by simp [textB, headB]
 have e2 : (textB sup its).drop 5 = leb sup.length ++ (supB sup ++ (leb its.length ++ (itsB its ++ []))) := by simp [textB, headB]
 have e3 : opFile (some ((textB sup its).drop 5)) = ((sup, its), some []) := by
  rw [e2]
  unfold opFile
  rw [opS_of _ t1 (by omega)]
  dsimp only
  rw [runB_of _ ok.1]
  dsimp only
  rw [opS_of _ t2 (by omega)]
  dsimp only
  rw [runI_of _ ok.2]
 unfold decF
 rw [if_pos ⟨t3, e1⟩, e3, if_pos ⟨rfl, c⟩]
theorem opS_inv {most : Nat} {s : Rd} {l : List UInt8} (h : (opS most s).2 = some l) : s = some (leb (opS most s).1 ++ l) ∧ (opS most s).1 ≤ most := by
 cases e : s.bind (pS most) with
 | none => simp [opS, e] at h
 | some p =>
  obtain ⟨n, r⟩ := p
  have e2 : opS most s = (n, some r) := by unfold opS; rw [e]
  rw [e2] at h ⊢
  cases h
  rw [Option.bind_eq_some_iff] at e
  obtain ⟨m, e3, e4⟩ := e
  obtain ⟨q1, q2⟩ := pS_leb e4
  exact ⟨by rw [e3, q1], q2⟩
theorem opB_inv {n : Nat} {s : Rd} {l : List UInt8} (h : (opB n s).2 = some l) : s = some (bl (opB n s).1 ++ l) ∧ (opB n s).1.size = n := by
 cases s with
 | none => simp [opB] at h
 | some m =>
  by_cases c : n ≤ m.length
  ·have e : opB n (some m) = (bA (m.take n), some (m.drop n)) := opB_some c
   rw [e] at h ⊢
   cases h
   refine ⟨?_, by rw [bA_size, List.length_take]; omega⟩
   show some m = some (m.take n ++ m.drop n)
   rw [List.take_append_drop]
  ·simp [opB, c] at h
theorem opF_inv {s : Rd} {l : List UInt8} (h : (opF s).2 = some l) : s = some (UInt8.ofNat (opF s).1 :: l) := by
 match s, h with
 | some (c :: m), h =>
  simp only [opF] at h ⊢
  cases h
  rw [UInt8.ofNat_toNat]
theorem opI_inv {s : Rd} {l : List UInt8} (h : (opI s).2 = some l) : s = some (lineB (opI s).1 ++ l) := by
 obtain ⟨a, sa, ea⟩ : ∃ a sa, opB 32 s = (a, sa) := ⟨_, _, rfl⟩
 obtain ⟨b, sb, eb⟩ : ∃ b sb, opB 32 sa = (b, sb) := ⟨_, _, rfl⟩
 obtain ⟨c, sc, ec⟩ : ∃ c sc, opF sb = (c, sc) := ⟨_, _, rfl⟩
 obtain ⟨d, sd, ed⟩ : ∃ d sd, opS 65536 sc = (d, sd) := ⟨_, _, rfl⟩
 obtain ⟨e, se, ee⟩ : ∃ e se, opS 65536 sd = (e, se) := ⟨_, _, rfl⟩
 obtain ⟨f, sf, ef⟩ : ∃ f sf, opS 65536 se = (f, sf) := ⟨_, _, rfl⟩
 have eI : opI s = ((a, b, (c : Int), (d : Int), (e : Int), (f : Int)), sf) := by
  unfold opI
  simp only [ea, eb, ec, ed, ee, ef]
 rw [eI] at h ⊢
 dsimp only at h
 subst h
 obtain ⟨g6, _⟩ := opS_inv (by rw [ef])
 rw [ef] at g6
 obtain ⟨g5, _⟩ := opS_inv (by rw [ee]; exact g6)
 rw [ee] at g5
 obtain ⟨g4, _⟩ := opS_inv (by rw [ed]; exact g5)
 rw [ed] at g4
 have g3 := opF_inv (by rw [ec]; exact g4)
 rw [ec] at g3
 obtain ⟨g2, _⟩ := opB_inv (by rw [eb]; exact g3)
 rw [eb] at g2
 obtain ⟨g1, _⟩ := opB_inv (by rw [ea]; exact g2)
 rw [ea] at g1
 rw [g1]
 unfold lineB
 simp only [Int.toNat_natCast, List.append_assoc, List.cons_append, List.nil_append]
theorem run_cons {α : Type} {op : Rd → α × Rd} {n : Nat} {s : Rd} {x : α} {m : List UInt8} (e : op s = (x, some m)) : runL op (n + 1) s = (x :: (runL op n (some m)).1, (runL op n (some m)).2) := by
 conv => lhs; unfold runL
 rw [e]
theorem run_stop {α : Type} {op : Rd → α × Rd} {n : Nat} {s : Rd} {x : α} (e : op s = (x, none)) : runL op (n + 1) s = ([], none) := by
 conv => lhs; unfold runL
 rw [e]
theorem runB_inv : ∀ {n : Nat} {s : Rd} {l : List UInt8}, (runL (opB 32) n s).2 = some l → s = some (supB (runL (opB 32) n s).1 ++ l) ∧ (runL (opB 32) n s).1.length = n
 | 0, s, l, h => ⟨h, rfl⟩
 | n + 1, s, l, h => by
  obtain ⟨x, sm, e⟩ : ∃ x sm, opB 32 s = (x, sm) := ⟨_, _, rfl⟩
  cases sm with
  | none => rw [run_stop e] at h; cases h
  | some m =>
   rw [run_cons e] at h ⊢
   obtain ⟨q1, q2⟩ := runB_inv h
   obtain ⟨g1, _⟩ := opB_inv (show (opB 32 s).2 = some m by rw [e])
   rw [e] at g1
   refine ⟨?_, by simp [q2]⟩
   have q3 := Option.some.inj q1
   rw [g1]
   simp only [supB, List.flatMap_cons, List.append_assoc]
   exact congrArg (fun z => some (bl x ++ z)) q3
theorem runI_inv : ∀ {n : Nat} {s : Rd} {l : List UInt8}, (runL opI n s).2 = some l → s = some (itsB (runL opI n s).1 ++ l) ∧ (runL opI n s).1.length = n
 | 0, s, l, h => ⟨h, rfl⟩
 | n + 1, s, l, h => by
  obtain ⟨x, sm, e⟩ : ∃ x sm, opI s = (x, sm) := ⟨_, _, rfl⟩
  cases sm with
  | none => rw [run_stop e] at h; cases h
  | some m =>
   rw [run_cons e] at h ⊢
   obtain ⟨q1, q2⟩ := runI_inv h
   have g1 := opI_inv (show (opI s).2 = some m by rw [e])
   rw [e] at g1
   refine ⟨?_, by simp [q2]⟩
   have q3 := Option.some.inj q1
   rw [g1]
   simp only [itsB, List.flatMap_cons, List.append_assoc]
   exact congrArg (fun z => some (lineB x ++ z)) q3
theorem decF_inv {s : List UInt8} {f : List ByteArray × List It} (h : decF s = some f) : s = textB f.1 f.2 ∧ chkF f.1 f.2 = 0 ∧ ¬ tooB f.1 f.2 := by
 unfold decF at h
 split at h
 ·rename_i hh
  split at h
  ·rename_i hc
   cases h
   obtain ⟨c1, c2⟩ := hc
   obtain ⟨n1, s1, e1⟩ : ∃ n s1, opS 4096 (some (s.drop 5)) = (n, s1) := ⟨_, _, rfl⟩
   obtain ⟨l1, s2, e2⟩ : ∃ l s2, runL (opB 32) n1 s1 = (l, s2) := ⟨_, _, rfl⟩
   obtain ⟨n2, s3, e3⟩ : ∃ n s3, opS 4096 s2 = (n, s3) := ⟨_, _, rfl⟩
   obtain ⟨l2, s4, e4⟩ : ∃ l s4, runL opI n2 s3 = (l, s4) := ⟨_, _, rfl⟩
   have eF : opFile (some (s.drop 5)) = ((l1, l2), s4) := by
    unfold opFile
    simp only [e1, e2, e3, e4]
   rw [eF] at c1 c2 ⊢
   dsimp only at c1 c2 ⊢
   subst c1
   obtain ⟨g4, m4⟩ := runI_inv (by rw [e4])
   rw [e4] at g4 m4
   obtain ⟨g3, m3⟩ := opS_inv (by rw [e3]; exact g4)
   rw [e3] at g3 m3
   obtain ⟨g2, m2⟩ := runB_inv (by rw [e2]; exact g3)
   rw [e2] at g2 m2
   obtain ⟨g1, m1⟩ := opS_inv (by rw [e1]; exact g2)
   rw [e1] at g1 m1
   dsimp only at m1 m2 m3 m4
   have g1' := Option.some.inj g1
   have es : s = textB l1 l2 := by
    rw [← List.take_append_drop 5 s, hh.2, g1']
    unfold textB
    rw [m2, m4]
    simp only [List.append_assoc, List.append_nil]
   refine ⟨es, c2, ?_⟩
   rintro (q | q | q)
   ·omega
   ·omega
   ·rw [← es] at q
    omega
  ·cases h
 ·cases h
end Gc
namespace Gc
open Go Gx
theorem or_low {n m i : Nat} (hn : n < 2 ^ i) (hb : n + m * 2 ^ i < 9223372036854775808) : Go.bits .or .i64 (n : Int) ((m * 2 ^ i : Nat) : Int) = ((n + m * 2 ^ i : Nat) : Int) := by
 have hw : ∀ z : Int, 0 ≤ z → z < 2 ^ 63 → IntKind.wrap .i64 z = z := fun z h0 h1 => Gx.w64 z (by omega)
 have e := (bits_nat .i64 63 (by decide) hw n (m * 2 ^ i) (by omega) (by omega)).2
 rw [e]
 congr 1
 have := Nat.two_pow_add_eq_or_of_lt hn m
 rw [Nat.or_comm, Nat.mul_comm, ← this]
 omega
theorem andNot128 : ∀ a : Fin 256, Go.bits .andNot .i64 (a.val : Int) 128 = ((a.val % 128 : Nat) : Int) := by decide +kernel
theorem p128 (i : Nat) : 128 ^ i = 2 ^ (7 * i) := by rw [Nat.pow_mul]
def PRd (H : AHeap) (rb : Nat) (st : Rd) : Prop := ∃ (s : ByteArray) (e : Int), H.get rb = some (.cells [.string s, .int .i64 e] 142 true 0) ∧ s.size ≤ 1000000 ∧ (e = 0 ↔ st.isSome = true) ∧ ∀ l, st = some l → s = bA l
section
variable {k rb : Nat} {H H' : AHeap} {st : Rd}
theorem PRd.chg {S : Nat → Prop} (P : PRd H rb st) (hr : rb < H.next) (c : Chg S H H') (hs : ¬ S rb) : PRd H' rb st := by
 obtain ⟨s, e, h1, h2⟩ := P
 exact ⟨s, e, c.got hr hs h1, h2⟩
theorem PRd.keeps (P : PRd H rb st) (hr : rb < H.next) (c : Keeps H H') : PRd H' rb st := P.chg hr c fun f => f
theorem PRd.ok {l : List UInt8} (g : H.get rb = some (.cells [.string (bA l), .int .i64 0] 142 true 0)) (hl : l.length ≤ 1000000) : PRd H rb (some l) := ⟨bA l, 0, g, hl, by simp, fun l' h => by cases h; rfl⟩
theorem PRd.bad {s : ByteArray} {e : Int} (g : H.get rb = some (.cells [.string s, .int .i64 e] 142 true 0)) (hl : s.size ≤ 1000000) (he : e ≠ 0) : PRd H rb none := ⟨s, e, g, hl, by simpa using he, fun l h => by cases h⟩
theorem nshort_spec (D : CallF) (hk : 20 ≤ k) (s : ByteArray) (h : AHeap) : ∃ r, num_short k D s h = some (r, h) ∧ (match lebQ 9 true (bl s) with
  | some (n, m) => ∃ lg : Nat, lg ≤ s.size ∧ r = ((n : Int), (lg : Int), 0) ∧ m = (bl s).drop lg
  | none => r.2.2 ≠ 0) := by
 simp only [num_short]
 obtain ⟨Y, hY⟩ : ∃ Y : Nat, Y = min 9 s.size := ⟨_, rfl⟩
 have eY : (if 9 < (s.size : Int) then 9 else (s.size : Int)) = (Y : Int) := by
  by_cases c : 9 < s.size
  ·rw [if_pos (by omega)]; omega
  ·rw [if_neg (by omega)]; omega
 rw [eY]
 have hl : (bl s).length = s.size := rfl
 suffices hh : ∀ j3, j3 = (fun (s1 : ByteArray) (h2 : AHeap) => (if (decide ((s1.size : Int) < 9)) = true then some (((0 : Int), (0 : Int), (10 : Int)), h2) else some ((0, 0, 3), h2))) → ∃ r, num_short_l0 k D j3 s 0 (Y : Int) 0 h = some (r, h) ∧ (match lebQ 9 true (bl s) with
  | some (n, m) => ∃ lg : Nat, lg ≤ s.size ∧ r = ((n : Int), (lg : Int), 0) ∧ m = (bl s).drop lg
  | none => r.2.2 ≠ 0) from hh _ rfl
 intro j3 h3
 unfold num_short_l0
 obtain ⟨bot, eb⟩ := iterK_of (fun _ _ _ _ _ => none) (num_short_l0b k D j3) (show Y + 1 ≤ k by omega)
 rw [eb]
 have loop : ∀ (d i n : Nat), i + d = Y → n < 128 ^ i → ∃ r, iterK bot (d + 1) (num_short_l0b k D j3) s (n : Int) (Y : Int) (i : Int) h = some (r, h) ∧ (match lebQ (9 - i) (decide (i = 0)) ((bl s).drop i) with
   | some (v, m) => ∃ lg : Nat, lg ≤ s.size ∧ r = (((n + v * 128 ^ i : Nat) : Int), (lg : Int), 0) ∧ m = (bl s).drop lg
   | none => r.2.2 ≠ 0) := fun d => by
  induction d with
  | zero =>
   intro i n hd hn
   obtain rfl : i = Y := by omega
   rw [iterK_s]; simp only [num_short_l0b]
   rw [if_neg (by simp), h3]
   by_cases c : s.size < 9
   ·refine ⟨(0, 0, 10), by dsimp only; rw [if_pos (by simp; omega)], ?_⟩
    obtain ⟨e, he⟩ : ∃ e, 9 - i = e + 1 := ⟨9 - i - 1, by omega⟩
    rw [List.drop_of_length_le (by omega), he]
    simp [lebQ]
   ·refine ⟨(0, 0, 3), by dsimp only; rw [if_neg (by simp; omega)], ?_⟩
    rw [show 9 - i = 0 by omega]
    simp [lebQ]
  | succ d ih =>
   intro i n hd hn
   rw [iterK_s]; simp only [num_short_l0b]
   obtain ⟨c, hc⟩ := isome (l := bl s) (i := i) (by omega)
   have hcl := c.toNat_lt
   obtain ⟨e, he⟩ : ∃ e, 9 - i = e + 1 := ⟨8 - i, by omega⟩
   have he2 : 9 - (i + 1) = e := by omega
   have e7 : IntKind.wrap .i64 (7 * (i : Int)) = ((7 * i : Nat) : Int) := by rw [Gx.w64 _ (by omega)]; omega
   have ewc : IntKind.wrap .i64 (c.toNat : Int) = (c.toNat : Int) := Gx.w64 _ (by omega)
   have hpi : 2 ^ (7 * i) ≤ 2 ^ 56 := Nat.pow_le_pow_right (by decide) (by omega)
   rw [p128] at hn
   have hm : (c.toNat % 128) * 2 ^ (7 * i) ≤ 127 * 2 ^ 56 := Nat.mul_le_mul (by omega) hpi
   have h56 : (2 : Nat) ^ 56 = 72057594037927936 := by decide
   have hsum : n + c.toNat % 128 * 2 ^ (7 * i) < 128 ^ (i + 1) := by
    rw [p128, show 7 * (i + 1) = 7 + 7 * i by omega, Nat.pow_add]
    have : c.toNat % 128 + 1 ≤ 2 ^ 7 := by omega
    have := Nat.mul_le_mul_right (2 ^ (7 * i)) this
    rw [Nat.add_mul] at this
    omega
   have et : Go.bits .or .i64 (n : Int) (IntKind.wrap .i64 ((Go.bits .andNot .i64 (IntKind.wrap .i64 (c.toNat : Int)) 128) * 2 ^ (min (IntKind.wrap .i64 (7 * (i : Int))).toNat (IntKind.bits .i64)))) = ((n + c.toNat % 128 * 2 ^ (7 * i) : Nat) : Int) := by
    rw [ewc, andNot128 ⟨c.toNat, hcl⟩, e7, Int.toNat_natCast, show min (7 * i) (IntKind.bits .i64) = 7 * i from Nat.min_eq_left (by show 7 * i ≤ 64; omega)]
    have e2 : (((c.toNat % 128 : Nat) : Int) * 2 ^ (7 * i)) = ((c.toNat % 128 * 2 ^ (7 * i) : Nat) : Int) := by rw [Int.natCast_mul, Int.natCast_pow]; rfl
    show Go.bits .or .i64 (n : Int) (IntKind.wrap .i64 (((c.toNat % 128 : Nat) : Int) * 2 ^ (7 * i))) = _
    rw [e2, Gx.w64 _ (by omega), or_low hn (by omega)]
   rw [if_pos (by simp; omega)]
   rw [show Gx.idxS s (i : Int) = some (c.toNat : Int) from idxS_of hc]
   simp only [Option.bind_some]
   rw [if_pos (by rw [e7]; omega), et, ewc, he, dropc hc]
   by_cases c1 : 128 ≤ c.toNat
   ·rw [if_pos (by simp; omega), Gx.w1 (by omega)]
    obtain ⟨r, g1, g2⟩ := ih (i + 1) (n + c.toNat % 128 * 2 ^ (7 * i)) (by omega) hsum
    refine ⟨r, g1, ?_⟩
    rw [he2] at g2
    have eq : lebQ (e + 1) (decide (i = 0)) (c :: (bl s).drop (i + 1)) = (lebQ e false ((bl s).drop (i + 1))).map fun p => (c.toNat - 128 + 128 * p.1, p.2) := by
     conv => lhs; unfold lebQ
     rw [if_pos c1]
    rw [show decide (i + 1 = 0) = false by simp] at g2
    rw [eq]
    cases hq : lebQ e false ((bl s).drop (i + 1)) with
    | none => rw [hq] at g2; exact g2
    | some p =>
     obtain ⟨v, m⟩ := p
     rw [hq] at g2
     obtain ⟨lg, k1, k2, k3⟩ := g2
     refine ⟨lg, k1, ?_, k3⟩
     rw [k2]
     have : n + c.toNat % 128 * 2 ^ (7 * i) + v * 128 ^ (i + 1) = n + (c.toNat - 128 + 128 * v) * 128 ^ i := by
      rw [← p128, show c.toNat % 128 = c.toNat - 128 by omega, Nat.pow_succ, Nat.add_mul]
      have : v * (128 ^ i * 128) = 128 * v * 128 ^ i := by rw [← Nat.mul_assoc, Nat.mul_comm _ 128, ← Nat.mul_assoc]
      omega
     rw [this]
   ·rw [if_neg (by simp; omega)]
    have e8 : c.toNat % 128 = c.toNat := Nat.mod_eq_of_lt (by omega)
    have eq : lebQ (e + 1) (decide (i = 0)) (c :: (bl s).drop (i + 1)) = if c.toNat = 0 ∧ decide (i = 0) = false then none else some (c.toNat, (bl s).drop (i + 1)) := by
     conv => lhs; unfold lebQ
     rw [if_neg c1]
    rw [eq, e8]
    by_cases c2 : c.toNat = 0
    ·by_cases c3 : i = 0
     ·rw [if_neg (fun q => by simp [c3] at q)]
      refine ⟨(((n + c.toNat * 2 ^ (7 * i) : Nat) : Int), ((i + 1 : Nat) : Int), 0), ?_, i + 1, by omega, by rw [p128], rfl⟩
      show (if ((c.toNat : Int) == 0) = true then _ else _) = _
      rw [if_pos (by simp [c2])]
      show (if decide ((i : Int) > 0) = true then _ else _) = _
      rw [if_neg (by simp [c3]), Gx.w1 (by omega)]
     ·rw [if_pos ⟨c2, by simp [c3]⟩]
      refine ⟨(0, 0, 3), ?_, by simp⟩
      show (if ((c.toNat : Int) == 0) = true then _ else _) = _
      rw [if_pos (by simp [c2])]
      show (if decide ((i : Int) > 0) = true then _ else _) = _
      rw [if_pos (by simp; omega)]
    ·rw [if_neg (fun q => c2 q.1)]
     refine ⟨(((n + c.toNat * 2 ^ (7 * i) : Nat) : Int), ((i + 1 : Nat) : Int), 0), ?_, i + 1, by omega, by rw [p128], rfl⟩
     show (if ((c.toNat : Int) == 0) = true then _ else _) = _
     rw [if_neg (by simp; omega)]
     show (if false = true then _ else _) = _
     rw [if_neg (by decide), Gx.w1 (by omega)]
 obtain ⟨r, g1, g2⟩ := loop Y 0 0 (by omega) (by decide)
 refine ⟨r, g1, ?_⟩
 rw [List.drop_zero] at g2
 simpa using g2
theorem fail_spec (D : CallF) (e : Int) {s : ByteArray} {e0 : Int} (g : H.get rb = some (.cells [.string s, .int .i64 e0] 142 true 0)) :
  Gx.Wp (num_Reader_Fail k D (some ⟨rb, 0, none⟩) e H) fun z => z.2.get rb = some (.cells [.string s, .int .i64 (if e0 = 0 then e else e0)] 142 true 0) ∧ Chg (· = rb) H z.2 := by
 simp only [num_Reader_Fail]
 refine .bnd rfl (.bnd (sldI_at (o := 0 + 1) g rfl) ?_)
 by_cases c : e0 = 0
 ·refine .ifp (by simp [c]) (.bnd rfl (.bnd (st1_of (o := 0 + 1) g (by simp) rfl) (.of ⟨?_, Chg.set (.inr rfl)⟩)))
  rw [sset_get, if_pos c]; rfl
 ·refine .ifn (by simp [c]) (.of ⟨by rw [if_neg c]; exact g, .refl _ _⟩)
theorem rshort_spec (D : CallF) (hk : 20 ≤ k) (P : PRd H rb st) (most : Nat) :
  Gx.Wp (num_Reader_Short k D (some ⟨rb, 0, none⟩) (most : Int) H) fun z => z.1 = ((opS most st).1 : Int) ∧ PRd z.2 rb (opS most st).2 ∧ Chg (· = rb) H z.2 := by
 simp only [num_Reader_Short]
 obtain ⟨s, e, g, hsz, he, hl⟩ := P
 obtain ⟨r, r1, r2⟩ := nshort_spec D hk s H
 refine .bnd rfl (.bnd (show ldS ⟨rb, 0 + 0, none⟩ H = some s by simp [ldS, AHeap.rd1, g, decS]) (.bnd r1 (Gx.Wp.jn fun j9 h9 => Gx.Wp.jn fun j24 h24 => ?_)))
 have bad : ∀ (n lg e2 : Int), (e2 ≠ 0 ∨ e ≠ 0) → (opS most st) = (0, none) → Gx.Wp (j9 (some ⟨rb, 0, none⟩) n lg e2 H) fun z => z.1 = ((opS most st).1 : Int) ∧ PRd z.2 rb (opS most st).2 ∧ Chg (· = rb) H z.2 := fun n lg e2 hne ho => by
  rw [h9, ho]
  refine .call (fail_spec D e2 g) fun z ⟨z1, z2⟩ => .bnd rfl (.bnd (sldI_at (o := 0 + 1) z1 rfl) ?_)
  have hne2 : (if e = 0 then e2 else e) ≠ 0 := by
   by_cases c : e = 0
   ·rw [if_pos c]; exact hne.resolve_right (fun q => q c)
   ·rw [if_neg c]; exact c
  exact .ifp (by simpa using hne2) (.of ⟨rfl, PRd.bad z1 hsz hne2, z2⟩)
 cases st with
 | none =>
  have hne : e ≠ 0 := fun q => by simpa using he.1 q
  have ho : opS most none = (0, none) := rfl
  by_cases c : r.2.2 = 0
  ·refine .ifp (by simpa using c) ?_
   rw [h24]
   by_cases c2 : r.1 > (most : Int)
   ·exact .ifp (by simpa using c2) (bad _ _ _ (.inr hne) ho)
   ·exact .ifn (by simpa using c2) (bad _ _ _ (.inr hne) ho)
  ·refine .ifn (by simpa using c) ?_
   rw [h24]
   exact .ifn (by decide) (bad _ _ _ (.inr hne) ho)
 | some l =>
  have e0 : e = 0 := he.2 rfl
  have es : s = bA l := hl l rfl
  have ebl : bl s = l := by rw [es]; rfl
  rw [ebl] at r2
  cases hq : lebQ 9 true l with
  | none =>
   rw [hq] at r2
   have ho : opS most (some l) = (0, none) := by simp [opS, pS, hq]
   refine .ifn (by simpa using r2) ?_
   rw [h24]
   exact .ifn (by decide) (bad _ _ _ (.inl r2) ho)
  | some p =>
   obtain ⟨n, m⟩ := p
   rw [hq] at r2
   obtain ⟨lg, q1, q2, q3⟩ := r2
   rw [q2]
   refine .ifp rfl ?_
   rw [h24]
   by_cases c2 : most < n
   ·have ho : opS most (some l) = (0, none) := by simp [opS, pS, hq, c2]
    exact .ifp (by simp; omega) (bad _ _ _ (.inl (by decide)) ho)
   ·have ho : opS most (some l) = (n, some m) := by simp [opS, pS, hq, c2]
    refine .ifn (by simp; omega) ?_
    rw [h9, ho]
    refine .call (fail_spec D 0 g) fun z ⟨z1, z2⟩ => .bnd rfl (.bnd (sldI_at (o := 0 + 1) z1 rfl) (.ifn (by simp [e0]) (.bnd rfl (.bnd (show ldS ⟨rb, 0 + 0, none⟩ z.2 = some s by simp [ldS, AHeap.rd1, z1, decS]) ?_))))
    have esub : Gx.subS s (some (lg : Int)) none = some (bA m) := by
     have := subS_of (s := s) (lo := some (lg : Int)) (hi := none) (i := lg) (j := s.size) rfl rfl q1 (Nat.le_refl _)
     rw [this, ebl, q3, List.take_of_length_le (by rw [← ebl]; exact Nat.le_refl _)]
     rfl
    refine .bnd esub (.bnd rfl (.bnd (st1_of (o := 0 + 0) z1 (by simp) rfl) (.of ⟨rfl, PRd.ok ?_ ?_, Chg.trans z2 (Chg.set (.inr rfl))⟩)))
    ·rw [sset_get, e0]; rfl
    ·have : m.length ≤ s.size := by rw [q3, List.length_drop, ← ebl]; exact Nat.sub_le _ _
     omega
theorem left_spec (D : CallF) {s : ByteArray} {e : Int} (g : H.get rb = some (.cells [.string s, .int .i64 e] 142 true 0)) : num_Reader_Left k D (some ⟨rb, 0, none⟩) H = some ((s.size : Int), H) := by
 simp only [num_Reader_Left]
 exact bnd rfl (bnd (show ldS ⟨rb, 0 + 0, none⟩ H = some s by simp [ldS, AHeap.rd1, g, decS]) rfl)
theorem err_spec (D : CallF) {s : ByteArray} {e : Int} (g : H.get rb = some (.cells [.string s, .int .i64 e] 142 true 0)) : num_Reader_Err k D (some ⟨rb, 0, none⟩) H = some (e, H) := by
 simp only [num_Reader_Err]
 exact bnd rfl (bnd (sldI_at (o := 0 + 1) g rfl) rfl)
theorem rbytes_spec (D : CallF) (P : PRd H rb st) (n : Nat) :
  Gx.Wp (num_Reader_Bytes k D (some ⟨rb, 0, none⟩) (n : Int) H) fun z => z.1 = (opB n st).1 ∧ PRd z.2 rb (opB n st).2 ∧ Chg (· = rb) H z.2 := by
 obtain ⟨s, e, g, hsz, he, hl⟩ := P
 simp only [num_Reader_Bytes]
 refine Gx.Wp.jn fun j4 h4 => .ifn (by simp) (.bnd (left_spec D g) ?_)
 have lds : ∀ {H : AHeap} {s : ByteArray} {e : Int}, H.get rb = some (.cells [.string s, .int .i64 e] 142 true 0) → ldS ⟨rb, 0 + 0, none⟩ H = some s := fun g => by simp [ldS, AHeap.rd1, g, decS]
 by_cases c : s.size < n
 ·have ho : opB n st = (⟨#[]⟩, none) := by
   cases st with
   | none => rfl
   | some l =>
    have es : s = bA l := hl l rfl
    have : ¬ n ≤ l.length := by rw [es, bA_size] at c; omega
    simp [opB, this]
  rw [ho]
  refine .ifp (by simp; omega) (.call (fail_spec D 10 g) fun z ⟨z1, z2⟩ => ?_)
  rw [h4]
  have hne2 : (if e = 0 then (10 : Int) else e) ≠ 0 := by
   by_cases c : e = 0
   ·rw [if_pos c]; decide
   ·rw [if_neg c]; exact c
  exact .bnd rfl (.bnd (sldI_at (o := 0 + 1) z1 rfl) (.ifp (by simpa using hne2) (.of ⟨rfl, PRd.bad z1 hsz hne2, z2⟩)))
 ·refine .ifn (by simp; omega) ?_
  rw [h4]
  refine .bnd rfl (.bnd (sldI_at (o := 0 + 1) g rfl) ?_)
  cases st with
  | none =>
   have hne : e ≠ 0 := fun q => by simpa using he.1 q
   exact .ifp (by simpa using hne) (.of ⟨rfl, PRd.bad g hsz hne, .refl _ _⟩)
  | some l =>
   have e0 : e = 0 := he.2 rfl
   have es : s = bA l := hl l rfl
   have ebl : bl s = l := by rw [es]; rfl
   have hle : n ≤ l.length := by rw [es, bA_size] at c; omega
   have hll : l.length = s.size := by rw [es, bA_size]
   rw [opB_some hle]
   have s1 := subS_of (s := s) (lo := none) (hi := some (n : Int)) (i := 0) (j := n) rfl rfl (Nat.zero_le _) (by omega)
   have s2 := subS_of (s := s) (lo := some (n : Int)) (hi := none) (i := n) (j := s.size) rfl rfl (by omega) (Nat.le_refl _)
   rw [ebl, List.drop_zero] at s1
   rw [ebl, List.take_of_length_le (by omega)] at s2
   refine .ifn (by simp [e0]) (.bnd rfl (.bnd (lds g) (.bnd s1 (.bnd rfl (.bnd (lds g) (.bnd s2 (.bnd rfl (.bnd (st1_of (o := 0 + 0) g (by simp) rfl) (.of ⟨rfl, PRd.ok ?_ ?_, Chg.set (.inr rfl)⟩)))))))))
   ·rw [sset_get, e0]; rfl
   ·rw [List.length_drop]; omega
theorem rfixed_spec (D : CallF) (hk : 20 ≤ k) (hr : rb < H.next) (P : PRd H rb st) :
  Gx.Wp (num_Reader_Fixed k D (some ⟨rb, 0, none⟩) 1 H) fun z => z.1 = ((opF st).1 : Int) ∧ PRd z.2 rb (opF st).2 ∧ Chg (· = rb) H z.2 := by
 simp only [num_Reader_Fixed]
 refine Gx.Wp.jn fun j4 h4 => Gx.Wp.jn fun j23 h23 => .ifn (by decide) ?_
 rw [h23]
 refine .ifn (by decide) ?_
 rw [h4]
 refine Gx.Wp.jn fun j7 h7 => .call (rbytes_spec D P 1) fun r ⟨q1, q2, q3⟩ => ?_
 have nx := q3.nx
 rw [q1]
 obtain ⟨x, hx⟩ : ∃ x, x = (opB 1 st).1 := ⟨_, rfl⟩
 rw [← hx]
 obtain ⟨h9, e9⟩ : ∃ h9, h9 = AHeap.new r.2 (.cells (bytesL x) 5 true 18446744073709551616) := ⟨_, rfl⟩
 rw [← e9]
 have k9 : Keeps r.2 h9 := by rw [e9]; exact Keeps.new _ _
 have g9 : h9.get r.2.next = some (.cells (bytesL x) 5 true 18446744073709551616) := by rw [e9]; simp
 have P9 := q2.keeps (by omega) k9
 have c9 : Chg (· = rb) H h9 := Chg.trans q3 (Chg.keeps k9)
 unfold num_Reader_Fixed_l0
 have ho : (x = ⟨#[]⟩ ∧ opF st = (0, none) ∧ (opB 1 st).2 = none) ∨ ∃ c l, x = bA [c] ∧ opF st = (c.toNat, some l) ∧ (opB 1 st).2 = some l := by
  cases st with
  | none => exact .inl ⟨by rw [hx]; rfl, rfl, rfl⟩
  | some l =>
   cases l with
   | nil => exact .inl ⟨by rw [hx]; simp [opB], rfl, by simp [opB]⟩
   | cons c l => exact .inr ⟨c, l, by rw [hx, opB_some (by simp)]; rfl, rfl, by rw [opB_some (by simp)]; rfl⟩
 rcases ho with ⟨e1, e2, e3⟩ | ⟨c, l, e1, e2, e3⟩
 ·rw [e2, ← e3]
  obtain ⟨bot, eb⟩ := iterK_of (fun _ _ _ _ _ => none) (num_Reader_Fixed_l0b k D j7) (show 0 + 1 ≤ k by omega)
  rw [eb, iterK_s]; simp only [num_Reader_Fixed_l0b]
  refine .ifn (by rw [e1]; decide) ?_
  rw [h7]
  exact .of ⟨rfl, P9, c9⟩
 ·rw [e2, ← e3]
  obtain ⟨bot, eb⟩ := iterK_of (fun _ _ _ _ _ => none) (num_Reader_Fixed_l0b k D j7) (show 1 + 1 ≤ k by omega)
  have esz : x.size = 1 := by rw [e1]; rfl
  have hc := c.toNat_lt
  rw [eb, iterK_s]; simp only [num_Reader_Fixed_l0b]
  rw [esz]
  have ei : Gx.idxL 1 ⟨some ⟨r.2.next, 0, some 2⟩, 1, 1⟩ 0 = some ⟨r.2.next, 0, none⟩ := rfl
  have g9' : h9.get r.2.next = some (.cells [.int .u8 (c.toNat : Int)] 5 true 18446744073709551616) := by rw [g9, e1]; rfl
  refine .ifp (by decide) (.bnd ei (.bnd (sldI_at g9' rfl) ?_))
  have eo : Go.bits .or .i64 (IntKind.wrap .i64 (0 * 256)) (IntKind.wrap .i64 (c.toNat : Int)) = (c.toNat : Int) := by
   rw [Gx.w64 (0 * 256) (by decide), Gx.w64 _ (by omega)]
   have hw : ∀ z : Int, 0 ≤ z → z < 2 ^ 63 → IntKind.wrap .i64 z = z := fun z h0 h1 => Gx.w64 z (by omega)
   have := (bits_nat .i64 63 (by decide) hw 0 c.toNat (by decide) (by omega)).2
   simpa using this
  rw [eo, show IntKind.wrap .i64 (0 + 1) = 1 from rfl, iterK_s]
  simp only [num_Reader_Fixed_l0b]
  refine .ifn (by decide) ?_
  rw [h7]
  exact .of ⟨rfl, P9, c9⟩
theorem rend_spec (D : CallF) (P : PRd H rb st) : Gx.Wp (num_Reader_End k D (some ⟨rb, 0, none⟩) H) fun z => (z.1 = 0 ↔ st = some []) ∧ Chg (· = rb) H z.2 := by
 obtain ⟨s, e, g, hsz, he, hl⟩ := P
 simp only [num_Reader_End]
 refine Gx.Wp.jn fun j3 h3 => .bnd (left_spec D g) ?_
 by_cases c : 0 < s.size
 ·refine .ifp (by simpa using c) (.call (fail_spec D 3 g) fun z ⟨z1, z2⟩ => ?_)
  rw [h3]
  refine .bnd rfl (.bnd (sldI_at (o := 0 + 1) z1 rfl) (.of ⟨⟨fun q => ?_, fun q => ?_⟩, z2⟩))
  ·dsimp only at q
   by_cases c : e = 0
   ·rw [if_pos c] at q; cases q
   ·rw [if_neg c] at q; exact absurd q c
  ·have := hl [] q
   rw [this] at c; exact absurd c (by decide)
 ·refine .ifn (by simpa using c) ?_
  rw [h3]
  refine .bnd rfl (.bnd (sldI_at (o := 0 + 1) g rfl) (.of ⟨⟨fun q => ?_, fun q => ?_⟩, .refl _ _⟩))
  ·cases st with
   | none => simpa using he.1 q
   | some l =>
    have es := hl l rfl
    rw [es, bA_size] at c
    have : l = [] := List.length_eq_zero_iff.1 (by omega)
    rw [this]
  ·exact he.2 (by rw [q]; rfl)
end
end Gc
namespace Gc
open Go Gx
section
variable {k rb : Nat} {h H H' : AHeap} {st : Rd}
theorem chgB {rb b : Nat} {h H H' : AHeap} (a : Chg (· = rb) h H) (c : Chg (· = b) H H') (hb : h.next ≤ b) : Chg (· = rb) h H' := Chg.beh a c fun y hy e => by omega
theorem item_spec16 (D : CallF) (hk : 20 ≤ k) (hr : rb < h.next) (P : PRd h rb st) : Gx.Wp (index_item k D (some ⟨rb, 0, none⟩) h) fun z => z.1 = (opI st).1 ∧ PRd z.2 rb (opI st).2 ∧ Chg (· = rb) h z.2 := by
 simp only [index_item]
 obtain ⟨a, sa, ea⟩ : ∃ a sa, opB 32 st = (a, sa) := ⟨_, _, rfl⟩
 obtain ⟨b, sb, eb⟩ : ∃ b sb, opB 32 sa = (b, sb) := ⟨_, _, rfl⟩
 obtain ⟨c, sc, ec⟩ : ∃ c sc, opF sb = (c, sc) := ⟨_, _, rfl⟩
 obtain ⟨d, sd, ed⟩ : ∃ d sd, opS 65536 sc = (d, sd) := ⟨_, _, rfl⟩
 obtain ⟨e, se, ee⟩ : ∃ e se, opS 65536 sd = (e, se) := ⟨_, _, rfl⟩
 obtain ⟨f, sf, ef⟩ : ∃ f sf, opS 65536 se = (f, sf) := ⟨_, _, rfl⟩
 have eI : opI st = ((a, b, (c : Int), (d : Int), (e : Int), (f : Int)), sf) := by
  unfold opI
  simp only [ea, eb, ec, ed, ee, ef]
 rw [eI]
 refine Wp.newE fun h1 e1 k1 n1 g1 => .call (rbytes_spec D (P.keeps hr k1) 32) fun r2 ⟨q2, P2, c2⟩ => ?_
 rw [ea] at q2 P2
 rw [q2]
 have n2 := c2.nx
 have c02 : Chg (· = rb) h r2.2 := Chg.trans (Chg.keeps k1) c2
 have g2 := c2.got (by omega) (by omega) g1
 refine Wp.newE fun h3 e3 k3 n3 g3 => Wp.stL g3 rfl rfl rfl (by decide) fun h4 c4 n4 g4 => ?_
 have k4 : Keeps r2.2 h4 := k3.keepsS c4 fun y hy => by subst hy; omega
 have P4 := P2.keeps (by omega) k4
 have c04 : Chg (· = rb) h h4 := Chg.trans c02 (Chg.keeps k4)
 have g24 := k4.got (by omega) g2
 refine .call (rbytes_spec D P4 32) fun r5 ⟨q5, P5, c5⟩ => ?_
 rw [eb] at q5 P5
 rw [q5]
 have n5 := c5.nx
 have gx5 := c5.got (by omega) (by omega) g4
 have g25 := c5.got (by omega) (by omega) g24
 have c05 : Chg (· = rb) h r5.2 := Chg.trans c04 c5
 refine Wp.st gx5 (by simp) rfl fun h6 c6 n6 g6 => ?_
 have P6 := P5.chg (by omega) c6 (by omega)
 have g26 := c6.got (by omega) (by omega) g25
 have c06 := chgB c05 c6 (by omega)
 refine .call (rfixed_spec D hk (by omega) P6) fun r7 ⟨q7, P7, c7⟩ => ?_
 rw [ec] at q7 P7
 rw [q7]
 have n7 := c7.nx
 have gx7 := c7.got (by omega) (by omega) g6
 have g27 := c7.got (by omega) (by omega) g26
 have c07 : Chg (· = rb) h r7.2 := Chg.trans c06 c7
 refine Wp.st gx7 (by simp) rfl fun h8 c8 n8 g8 => ?_
 have P8 := P7.chg (by omega) c8 (by omega)
 have g28 := c8.got (by omega) (by omega) g27
 have c08 := chgB c07 c8 (by omega)
 refine .call (rshort_spec D hk P8 65536) fun r9 ⟨q9, P9, c9⟩ => ?_
 rw [ed] at q9 P9
 rw [q9]
 have n9 := c9.nx
 have gx9 := c9.got (by omega) (by omega) g8
 have g29 := c9.got (by omega) (by omega) g28
 have c09 : Chg (· = rb) h r9.2 := Chg.trans c08 c9
 refine Wp.st gx9 (by simp) rfl fun h10 c10 n10 g10 => ?_
 have P10 := P9.chg (by omega) c10 (by omega)
 have g210 := c10.got (by omega) (by omega) g29
 have c010 := chgB c09 c10 (by omega)
 refine .call (rshort_spec D hk P10 65536) fun r11 ⟨q11, P11, c11⟩ => ?_
 rw [ee] at q11 P11
 rw [q11]
 have n11 := c11.nx
 have gx11 := c11.got (by omega) (by omega) g10
 have g211 := c11.got (by omega) (by omega) g210
 have c011 : Chg (· = rb) h r11.2 := Chg.trans c010 c11
 refine Wp.st gx11 (by simp) rfl fun h12 c12 n12 g12 => ?_
 have P12 := P11.chg (by omega) c12 (by omega)
 have g212 := c12.got (by omega) (by omega) g211
 have c012 := chgB c011 c12 (by omega)
 refine .call (rshort_spec D hk P12 65536) fun r13 ⟨q13, P13, c13⟩ => ?_
 rw [ef] at q13 P13
 rw [q13]
 have n13 := c13.nx
 have gx13 := c13.got (by omega) (by omega) g12
 have g213 := c13.got (by omega) (by omega) g212
 have c013 : Chg (· = rb) h r13.2 := Chg.trans c012 c13
 refine Wp.st gx13 (by simp) rfl fun h14 c14 n14 g14 => ?_
 have P14 := P13.chg (by omega) c14 (by omega)
 have g214 := c14.got (by omega) (by omega) g213
 have c014 := chgB c013 c14 (by omega)
 have gz : h14.get r2.2.next = some (.cells (itC (a, b, (c : Int), (d : Int), (e : Int), (f : Int))) 57 true 0) := g14
 refine .bnd (sldA_at gz rfl) (.bnd (decI6 _) (Wp.stL g214 rfl rfl rfl (by decide) fun h17 c17 n17 g17 => .bnd (sldA_at (c := itC (a, b, (c : Int), (d : Int), (e : Int), (f : Int))) g17 rfl) (.bnd (decI6 _) (.of ⟨rfl, P14.chg (by omega) c17 (by omega), chgB c014 c17 (by omega)⟩))))
theorem dd_bytes {R : Type} {Q : R → Prop} (P : PRd h rb st) {κ : Value → AHeap → Option R} {C : CallF} (hC : C R 56 = DD k R 56) (kt : ∀ h', PRd h' rb (opB 32 st).2 → Chg (· = rb) h h' → Gx.Wp (κ (.string (opB 32 st).1) h') Q) :
  Gx.Wp (callD C (.func (.func 56) ⟨[]⟩ ⟨[]⟩) [.pointer (some ⟨rb, 0, none⟩)] h κ) Q := by
 have e : callD C (.func (.func 56) ⟨[]⟩ ⟨[]⟩) [.pointer (some ⟨rb, 0, none⟩)] h κ = C R 56 [.pointer (some ⟨rb, 0, none⟩)] h κ := rfl
 rw [e, hC]
 show Gx.Wp ((index_Decode_1 k noC (some ⟨rb, 0, none⟩) h).bind fun r => κ (.string r.1) r.2) Q
 simp only [index_Decode_1]
 refine .call (P := fun r => r.1 = (opB 32 st).1 ∧ PRd r.2 rb (opB 32 st).2 ∧ Chg (· = rb) h r.2) (.call (rbytes_spec noC P 32) fun r q => .of q) fun r ⟨q1, q2, q3⟩ => ?_
 rw [q1]; exact kt r.2 q2 q3
theorem dd_item {R : Type} {Q : R → Prop} (hk : 20 ≤ k) (hr : rb < h.next) (P : PRd h rb st) {κ : Value → AHeap → Option R} {C : CallF} (hC : C R 59 = DD k R 59) (kt : ∀ h', PRd h' rb (opI st).2 → Chg (· = rb) h h' → Gx.Wp (κ (.agg ⟨itC (opI st).1⟩) h') Q) :
  Gx.Wp (callD C (.func (.func 59) ⟨[]⟩ ⟨[]⟩) [.pointer (some ⟨rb, 0, none⟩)] h κ) Q := by
 have e : callD C (.func (.func 59) ⟨[]⟩ ⟨[]⟩) [.pointer (some ⟨rb, 0, none⟩)] h κ = C R 59 [.pointer (some ⟨rb, 0, none⟩)] h κ := rfl
 rw [e, hC]
 show Gx.Wp ((index_item k noC (some ⟨rb, 0, none⟩) h).bind fun r => κ (.agg ⟨itC r.1⟩) r.2) Q
 refine .call (item_spec16 noC hk hr P) fun r ⟨q1, q2, q3⟩ => ?_
 rw [q1]; exact kt r.2 q2 q3
theorem listS_spec (hk : 5000 ≤ k) (hr : rb < h.next) (P : PRd h rb st) :
  Gx.Wp (index_list_string k (DD k) (some ⟨rb, 0, none⟩) (.func (.func 56) ⟨[]⟩ ⟨[]⟩) h) fun z => PRd z.2 rb (runL (opB 32) (opS 4096 st).1 (opS 4096 st).2).2 ∧ ((runL (opB 32) (opS 4096 st).1 (opS 4096 st).2).2 ≠ none → Acc encS 9 h.next z.2 z.1 (runL (opB 32) (opS 4096 st).1 (opS 4096 st).2).1) ∧ Chg (· = rb) h z.2 := by
 simp only [index_list_string]
 refine Gx.Wp.jn fun j3 h3 => .call (rshort_spec (DD k) (by omega) P 4096) fun r4 ⟨q4, P4, c4⟩ => ?_
 obtain ⟨n, st1, e1⟩ : ∃ n s, opS 4096 st = (n, s) := ⟨_, _, rfl⟩
 rw [e1] at q4 P4 ⊢
 dsimp only at q4 P4 ⊢
 rw [q4]
 have hn : n ≤ 4096 := by
  have : n = (opS 4096 st).1 := by rw [e1]
  rw [this]
  cases hs : (opS 4096 st).2 with
  | none => 
   have : opS 4096 st = (0, none) := by
    unfold opS at hs ⊢
    cases e : st.bind (pS 4096) with
    | none => rfl
    | some p => rw [e] at hs; cases hs
   rw [this]; decide
  | some l => exact (opS_inv hs).2
 have n4 := c4.nx
 unfold index_list_string_l0
 cases st1 with
 | none =>
  have hz : n = 0 := by
   have : opS 4096 st = (n, none) := e1
   unfold opS at this
   cases e : st.bind (pS 4096) with
   | none => rw [e] at this; cases this; rfl
   | some p => rw [e] at this; cases this
  subst hz
  obtain ⟨bot, eb⟩ := iterK_of (fun _ _ _ _ _ _ => none) (index_list_string_l0b k (DD k) j3) (show 0 + 1 ≤ k by omega)
  rw [eb, iterK_s]; simp only [index_list_string_l0b]
  refine .ifn (by decide) ?_
  rw [h3]
  exact .of ⟨P4, fun q => absurd rfl q, c4⟩
 | some l =>
  obtain ⟨bot, eb⟩ := iterK_of (fun _ _ _ _ _ _ => none) (index_list_string_l0b k (DD k) j3) (show n + 1 ≤ k by omega)
  rw [eb]
  have loop : ∀ (d i : Nat) (o : Slc) (H : AHeap) (xs : List ByteArray) (l : List UInt8), i + d = n → xs.length = i → PRd H rb (some l) → Chg (· = rb) h H → Acc encS 9 h.next H o xs → Gx.Wp (iterK bot (d + 1) (index_list_string_l0b k (DD k) j3) (some ⟨rb, 0, none⟩) (.func (.func 56) ⟨[]⟩ ⟨[]⟩) o (n : Int) (i : Int) H) fun z => PRd z.2 rb (runL (opB 32) d (some l)).2 ∧ ((runL (opB 32) d (some l)).2 ≠ none → Acc encS 9 h.next z.2 z.1 (xs ++ (runL (opB 32) d (some l)).1)) ∧ Chg (· = rb) h z.2 := fun d => by
   induction d with
   | zero =>
    intro i o H xs l hd hx P c A
    rw [iterK_s]; simp only [index_list_string_l0b]
    refine .ifn (by simp; omega) ?_
    rw [h3]
    refine .of ⟨P, fun _ => ?_, c⟩
    show Acc encS 9 h.next H o (xs ++ [])
    rw [List.append_nil]; exact A
   | succ d ih =>
    intro i o H xs l hd hx P c A
    rw [iterK_s]; simp only [index_list_string_l0b]
    have nx := c.nx
    refine .ifp (by simp; omega) (dd_bytes (k := k) P rfl fun h' P' c' => .bnd rfl ?_)
    obtain ⟨x, s2, e2⟩ : ∃ x s2, opB 32 (some l) = (x, s2) := ⟨_, _, rfl⟩
    rw [e2] at P' ⊢
    dsimp only at P' ⊢
    obtain ⟨s, e, g, hsz, he, hl⟩ := P'
    have nx' := c'.nx
    refine .bnd (err_spec (DD k) g) ?_
    have A' := A.chg c' fun a ha q => by have := (A.lt a ha).2; omega
    have c2 : Chg (· = rb) h h' := Chg.trans c c'
    cases s2 with
    | none =>
     have hne : e ≠ 0 := fun q => by simpa using he.1 q
     rw [run_stop e2]
     exact .ifp (by simpa using hne) (.of ⟨PRd.bad g hsz hne, fun q => absurd rfl q, c2⟩)
    | some m =>
     have e0 : e = 0 := he.2 rfl
     have es : s = bA m := hl m rfl
     rw [run_cons e2]
     refine .ifn (by simp [e0]) (Wp.newE fun h3 e3 k3 n3 g3 => ?_)
     obtain ⟨s', h9, a1, a2, A9, c9, d9⟩ := Acc.pushK A' (fun _ => rfl) x (bytes := 16) e3 (by omega) (by decide) (by omega)
     refine .bnd a1 (.bnd a2 ?_)
     rw [Gx.w1 (by omega)]
     have hc9 : ∀ y, ofS o y → h.next ≤ y := fun y ⟨a, ha, e⟩ => by rw [e]; exact (A'.lt a ha).2
     have g' : h9.get rb = some (.cells [.string (bA m), .int .i64 0] 142 true 0) := by
      have := c9.got (by omega) (fun q => by have := hc9 _ q; omega) g
      rw [this, es, e0]
     have := ih (i + 1) s' h9 (xs ++ [x]) m (by omega) (by simp [hx]) (PRd.ok g' (by rw [← bA_size, ← es]; exact hsz)) (Chg.beh c2 c9 fun y hy q => by have := hc9 y q; omega) A9
     simp only [List.append_assoc, List.singleton_append] at this
     exact this
  have := loop n 0 ⟨none, 0, 0⟩ r4.2 [] l (by omega) rfl P4 c4 (Acc.nil _ _ _ _)
  simpa using this
theorem listI_spec (hk : 5000 ≤ k) (hr : rb < h.next) (P : PRd h rb st) :
  Gx.Wp (index_list_api_Item k (DD k) (some ⟨rb, 0, none⟩) (.func (.func 59) ⟨[]⟩ ⟨[]⟩) h) fun z => PRd z.2 rb (runL opI (opS 4096 st).1 (opS 4096 st).2).2 ∧ ((runL opI (opS 4096 st).1 (opS 4096 st).2).2 ≠ none → AccW 6 itC 57 h.next z.2 z.1 (runL opI (opS 4096 st).1 (opS 4096 st).2).1) ∧ Chg (· = rb) h z.2 := by
 simp only [index_list_api_Item]
 refine Gx.Wp.jn fun j3 h3 => .call (rshort_spec (DD k) (by omega) P 4096) fun r4 ⟨q4, P4, c4⟩ => ?_
 obtain ⟨n, st1, e1⟩ : ∃ n s, opS 4096 st = (n, s) := ⟨_, _, rfl⟩
 rw [e1] at q4 P4 ⊢
 dsimp only at q4 P4 ⊢
 rw [q4]
 have hn : n ≤ 4096 := by
  have : n = (opS 4096 st).1 := by rw [e1]
  rw [this]
  cases hs : (opS 4096 st).2 with
  | none => 
   have : opS 4096 st = (0, none) := by
    unfold opS at hs ⊢
    cases e : st.bind (pS 4096) with
    | none => rfl
    | some p => rw [e] at hs; cases hs
   rw [this]; decide
  | some l => exact (opS_inv hs).2
 have n4 := c4.nx
 unfold index_list_api_Item_l0
 cases st1 with
 | none =>
  have hz : n = 0 := by
   have : opS 4096 st = (n, none) := e1
   unfold opS at this
   cases e : st.bind (pS 4096) with
   | none => rw [e] at this; cases this; rfl
   | some p => rw [e] at this; cases this
  subst hz
  obtain ⟨bot, eb⟩ := iterK_of (fun _ _ _ _ _ _ => none) (index_list_api_Item_l0b k (DD k) j3) (show 0 + 1 ≤ k by omega)
  rw [eb, iterK_s]; simp only [index_list_api_Item_l0b]
  refine .ifn (by decide) ?_
  rw [h3]
  exact .of ⟨P4, fun q => absurd rfl q, c4⟩
 | some l =>
  obtain ⟨bot, eb⟩ := iterK_of (fun _ _ _ _ _ _ => none) (index_list_api_Item_l0b k (DD k) j3) (show n + 1 ≤ k by omega)
  rw [eb]
  have loop : ∀ (d i : Nat) (o : Slc) (H : AHeap) (xs : List It) (l : List UInt8), i + d = n → xs.length = i → PRd H rb (some l) → Chg (· = rb) h H → AccW 6 itC 57 h.next H o xs → Gx.Wp (iterK bot (d + 1) (index_list_api_Item_l0b k (DD k) j3) (some ⟨rb, 0, none⟩) (.func (.func 59) ⟨[]⟩ ⟨[]⟩) o (n : Int) (i : Int) H) fun z => PRd z.2 rb (runL opI d (some l)).2 ∧ ((runL opI d (some l)).2 ≠ none → AccW 6 itC 57 h.next z.2 z.1 (xs ++ (runL opI d (some l)).1)) ∧ Chg (· = rb) h z.2 := fun d => by
   induction d with
   | zero =>
    intro i o H xs l hd hx P c A
    rw [iterK_s]; simp only [index_list_api_Item_l0b]
    refine .ifn (by simp; omega) ?_
    rw [h3]
    refine .of ⟨P, fun _ => ?_, c⟩
    show AccW 6 itC 57 h.next H o (xs ++ [])
    rw [List.append_nil]; exact A
   | succ d ih =>
    intro i o H xs l hd hx P c A
    rw [iterK_s]; simp only [index_list_api_Item_l0b]
    have nx := c.nx
    refine .ifp (by simp; omega) (dd_item (k := k) (by omega) (by omega) P rfl fun h' P' c' => ?_)
    obtain ⟨x, s2, e2⟩ : ∃ x s2, opI (some l) = (x, s2) := ⟨_, _, rfl⟩
    rw [e2] at P' ⊢
    dsimp only at P' ⊢
    have nx' := c'.nx
    have A' := A.chg c' fun a ha q => by have := (A.lt a ha).2; omega
    have c2 : Chg (· = rb) h h' := Chg.trans c c'
    refine .bnd (decI6 x) (Wp.newE fun h16 e16 k16 n16 g16 => Wp.stL g16 rfl rfl rfl (by decide) fun h17 c17 n17 g17 => ?_)
    have k17 : Keeps h' h17 := k16.keepsS c17 fun y hy => by subst hy; omega
    obtain ⟨s, e, g0, hsz, he, hl⟩ := P'
    have g := k17.got (by omega) g0
    have c3 : Chg (· = rb) h h17 := Chg.trans c2 (Chg.keeps k17)
    refine .bnd (err_spec (DD k) g) ?_
    cases s2 with
    | none =>
     have hne : e ≠ 0 := fun q => by simpa using he.1 q
     rw [run_stop e2]
     exact .ifp (by simpa using hne) (.of ⟨PRd.bad g hsz hne, fun q => absurd rfl q, c3⟩)
    | some m =>
     have e0 : e = 0 := he.2 rfl
     have es : s = bA m := hl m rfl
     rw [run_cons e2]
     have gx : h17.get h'.next = some (.cells (itC x) 57 true 0) := g17
     refine .ifn (by simp [e0]) (.bnd (sldA_at gx rfl) (.bnd (decI6 x) (Wp.newE fun h3 e3 k3 n3 g3 => ?_)))
     have eH : h3 = h17.new (.cells (itC x) 57 true 0) := e3
     rw [eH]
     obtain ⟨s', h9, a2, A9, c9, d9⟩ := (A'.keeps k17).push itC_len itC_one x (bytes := 64) (by decide) (by omega) (by omega)
     refine .bnd (rdS_oneW itC_len x 57) (.bnd a2 ?_)
     rw [Gx.w1 (by omega)]
     have hc9 : ∀ y, ofS o y → h.next ≤ y := fun y ⟨a, ha, e⟩ => by rw [e]; exact (A'.lt a ha).2
     have g' : h9.get rb = some (.cells [.string (bA m), .int .i64 0] 142 true 0) := by
      have := c9.got (by omega) (fun q => by have := hc9 _ q; omega) g
      rw [this, es, e0]
     have := ih (i + 1) s' h9 (xs ++ [x]) m (by omega) (by simp [hx]) (PRd.ok g' (by rw [← bA_size, ← es]; exact hsz)) (Chg.beh c3 c9 fun y hy q => by have := hc9 y q; omega) A9
     simp only [List.append_assoc, List.singleton_append] at this
     exact this
  have := loop n 0 ⟨none, 0, 0⟩ r4.2 [] l (by omega) rfl P4 c4 (AccW.nil _ _ _ _ _)
  simpa using this
end
end Gc
namespace Gc
open Go Gx
section
variable {k rb : Nat} {h H H' : AHeap} {st : Rd}
theorem cut_spec (D : CallF) (s p : ByteArray) (h : AHeap) : strings_CutPrefix k D s p h = some (if (bl s).take p.size = bl p then (bA ((bl s).drop p.size), true) else (s, false), h) := by
 simp only [strings_CutPrefix, internal_stringslite_CutPrefix, internal_stringslite_HasPrefix]
 have hs : (bl s).length = s.size := rfl
 have hp : (bl p).length = p.size := rfl
 by_cases c : p.size ≤ s.size
 ·rw [if_pos (by simp; omega)]
  have s1 := subS_of (s := s) (lo := none) (hi := some (p.size : Int)) (i := 0) (j := p.size) rfl rfl (Nat.zero_le _) c
  have s2 := subS_of (s := s) (lo := some (p.size : Int)) (hi := none) (i := p.size) (j := s.size) rfl rfl c (Nat.le_refl _)
  rw [List.take_of_length_le (l := bl s) (by omega)] at s2
  rw [List.drop_zero] at s1
  simp only [s1, s2, Option.bind_some, beq_ba]
  by_cases c2 : (bl s).take p.size = bl p
  ·have this2 : (⟨⟨bl p⟩⟩ : ByteArray) = p := rfl
   simp [c2, this2]
   rfl
  ·have : ¬ (⟨⟨(bl s).take p.size⟩⟩ : ByteArray) = p := fun e => c2 (congrArg bl e)
   simp [this, c2]
 ·rw [if_neg (by simp; omega)]
  have : ¬ (bl s).take p.size = bl p := fun e => by
   have := congrArg List.length e
   rw [List.length_take] at this; omega
  simp [this]
def noF : (Slc × Slc) × Int := ((⟨none, 0, 0⟩, ⟨none, 0, 0⟩), 160)
theorem decode_spec (hk : 20000 ≤ k) (s : ByteArray) (h : AHeap) : Gx.Wp (index_Decode k (DD k) s h) fun z => (∀ f, decF (bl s) = some f → z.1.2 = 0 ∧ Row encS z.2 z.1.1.1 f.1 ∧ RowW 6 itC z.2 z.1.1.2 f.2 ∧ (∀ a, z.1.1.1.a = some a → h.next ≤ a.block) ∧ ∀ a, z.1.1.2.a = some a → h.next ≤ a.block) ∧ (decF (bl s) = none → z.1 = noF) ∧ Keeps h z.2 := by
 simp only [index_Decode]
 have hs : (bl s).length = s.size := rfl
 refine Wp.newE fun h1 e1 k1 n1 g1 => .bnd (cut_spec (DD k) s ⟨#[71, 82, 84, 73, 1]⟩ h1) (Gx.Wp.jn fun j7 h7 => ?_)
 have bad7 : ∀ rest, decF (bl s) = none → Gx.Wp (j7 (some ⟨h.next, 0, none⟩) rest true h1) fun z => (∀ f, decF (bl s) = some f → z.1.2 = 0 ∧ Row encS z.2 z.1.1.1 f.1 ∧ RowW 6 itC z.2 z.1.1.2 f.2 ∧ (∀ a, z.1.1.1.a = some a → h.next ≤ a.block) ∧ ∀ a, z.1.1.2.a = some a → h.next ≤ a.block) ∧ (decF (bl s) = none → z.1 = noF) ∧ Keeps h z.2 := fun rest hd => by
  rw [h7]
  refine .ifp rfl (.bnd rfl (Wp.stL g1 rfl rfl rfl (by decide) fun h9 c9 n9 g9 => .bnd rfl (.bnd (sldA_at g9 rfl) (.bnd rfl (.of ⟨fun f hf => (by rw [hd] at hf; cases hf), fun _ => rfl, k1.keepsS c9 fun y hy => by subst hy; omega⟩)))))
 have pre : bl (⟨#[71, 82, 84, 73, 1]⟩ : ByteArray) = headB := rfl
 have psz : (⟨#[71, 82, 84, 73, 1]⟩ : ByteArray).size = 5 := rfl
 rw [pre, psz]
 by_cases c1 : (bl s).take 5 = headB
 rotate_left
 ·rw [if_neg c1]
  exact .ifp rfl (bad7 _ (by unfold decF; rw [if_neg (fun q => c1 q.2)]))
 rw [if_pos c1]
 refine .ifn (by simp) ?_
 by_cases c2 : 65536 < s.size
 ·rw [decide_eq_true (by omega)]
  exact bad7 _ (by unfold decF; rw [if_neg (fun q => by omega)])
 rw [decide_eq_false (by omega), h7]
 have hlen : (bl s).length ≤ 65536 := by omega
 refine .ifn (by decide) ?_
 simp only [num_Read]
 refine .bnd rfl ?_
 obtain ⟨h13, e13⟩ : ∃ h13, h13 = AHeap.new h1 (.cells [.string (bA ((bl s).drop 5)), .int .i64 0] 142 true 0) := ⟨_, rfl⟩
 rw [← e13]
 have k13 : Keeps h1 h13 := by rw [e13]; exact Keeps.new _ _
 have n13 : h13.next = h1.next + 1 := by rw [e13]; rfl
 have g13 : h13.get h1.next = some (.cells [.string (bA ((bl s).drop 5)), .int .i64 0] 142 true 0) := by rw [e13]; simp
 have P13 : PRd h13 h1.next (some ((bl s).drop 5)) := PRd.ok g13 (by rw [List.length_drop]; omega)
 refine Wp.newE fun h14 e14 k14x n14x g14x => ?_
 have k14 : Keeps h13 h14 := k14x
 have n14 : h14.next = h13.next + 1 := n14x
 have g14 : h14.get h13.next = some (.cells [.slice none 0 0, .slice none 0 0] 25 true 0) := g14x
 obtain ⟨a1, s1, ea1⟩ : ∃ n s1, opS 4096 (some ((bl s).drop 5)) = (n, s1) := ⟨_, _, rfl⟩
 obtain ⟨l1, s2, ea2⟩ : ∃ l s2, runL (opB 32) a1 s1 = (l, s2) := ⟨_, _, rfl⟩
 obtain ⟨a3, s3, ea3⟩ : ∃ n s3, opS 4096 s2 = (n, s3) := ⟨_, _, rfl⟩
 obtain ⟨l2, s4, ea4⟩ : ∃ l s4, runL opI a3 s3 = (l, s4) := ⟨_, _, rfl⟩
 have eF : opFile (some ((bl s).drop 5)) = ((l1, l2), s4) := by
  unfold opFile
  simp only [ea1, ea2, ea3, ea4]
 refine .call (listS_spec (by omega) (by omega) (P13.keeps (by omega) k14)) fun r15 ⟨P15, A15, c15⟩ => ?_
 rw [ea1] at P15 A15
 dsimp only at P15 A15
 rw [ea2] at P15 A15
 dsimp only at P15 A15
 have n15 := c15.nx
 have g15 := c15.got (by omega) (by omega) g14
 refine Wp.st g15 (by simp) rfl fun h16 c16 n16 g16 => ?_
 have P16 := P15.chg (by omega) c16 (by omega)
 refine .call (listI_spec (by omega) (by omega) P16) fun r17 ⟨P17, A17, c17⟩ => ?_
 rw [ea3] at P17 A17
 dsimp only at P17 A17
 rw [ea4] at P17 A17
 dsimp only at P17 A17
 have n17 := c17.nx
 have g17 := c17.got (by omega) (by omega) g16
 refine Wp.st g17 (by simp) rfl fun h18 c18 n18 g18 => Gx.Wp.jn fun j23 h23 => ?_
 have P18 := P17.chg (by omega) c18 (by omega)
 refine .call (rend_spec (DD k) P18) fun r37 ⟨q37, c37⟩ => ?_
 have n37 := c37.nx
 have g137 : r37.2.get h.next = some (.cells [.slice none 0 0, .slice none 0 0] 25 true 0) := by
  have a := k13.got (by omega) g1
  have a := k14.got (by omega) a
  have a := c15.got (by omega) (by omega) a
  have a := c16.got (by omega) (by omega) a
  have a := c17.got (by omega) (by omega) a
  have a := c18.got (by omega) (by omega) a
  exact c37.got (by omega) (by omega) a
 have kz : Keeps h r37.2 := by
  have a : Keeps h h14 := (k1.trans k13).trans k14
  have a := a.keepsS c15 fun y hy => by subst hy; omega
  have a := a.keepsS c16 fun y hy => by subst hy; omega
  have a := a.keepsS c17 fun y hy => by subst hy; omega
  have a := a.keepsS c18 fun y hy => by subst hy; omega
  exact a.keepsS c37 fun y hy => by subst hy; omega
 have bad23 : ∀ H f20, decF (bl s) = none → Keeps h H → H.get h.next = some (.cells [.slice none 0 0, .slice none 0 0] 25 true 0) → h.next < H.next → Gx.Wp (j23 (some ⟨h.next, 0, none⟩) f20 true H) fun z => (∀ f, decF (bl s) = some f → z.1.2 = 0 ∧ Row encS z.2 z.1.1.1 f.1 ∧ RowW 6 itC z.2 z.1.1.2 f.2 ∧ (∀ a, z.1.1.1.a = some a → h.next ≤ a.block) ∧ ∀ a, z.1.1.2.a = some a → h.next ≤ a.block) ∧ (decF (bl s) = none → z.1 = noF) ∧ Keeps h z.2 := fun H f20 hd kH gH hl => by
  rw [h23]
  refine .ifp rfl (.bnd rfl (Wp.stL gH rfl rfl rfl (by decide) fun h9 c9 n9 g9 => .bnd rfl (.bnd (sldA_at g9 rfl) (.bnd rfl (.of ⟨fun f hf => (by rw [hd] at hf; cases hf), fun _ => rfl, kH.keepsS c9 fun y hy => by subst hy; omega⟩)))))
 by_cases c3 : s4 = some []
 rotate_left
 ·have hne : ¬ r37.1 = 0 := fun q => c3 (q37.1 q)
  refine .ifp (by simpa using hne) (bad23 _ _ ?_ kz g137 (by omega))
  unfold decF
  rw [if_pos ⟨hlen, c1⟩, eF, if_neg (fun q => c3 q.1)]
 ·have h0 : r37.1 = 0 := q37.2 c3
  have s3n : s3 ≠ none := fun q => by
   rw [q] at ea4
   have e0 : a3 = 0 := by
    rw [q] at ea3
    unfold opS at ea3
    cases e : s2.bind (pS 4096) with
    | none => rw [e] at ea3; cases ea3; rfl
    | some p => rw [e] at ea3; cases ea3
   rw [e0] at ea4
   cases ea4
   cases c3
  have s2n : s2 ≠ none := fun q => by
   rw [q] at ea3
   cases ea3
   exact s3n rfl
  have As := A15 s2n
  have Ai := A17 (by rw [c3]; simp)
  have g37 : r37.2.get h13.next = some (.cells [.slice r15.1.a r15.1.len r15.1.cap, .slice r17.1.a r17.1.len r17.1.cap] 25 true 0) := c37.got (by omega) (by omega) g18
  have ks : Keeps h14 r15.2 ∨ True := .inr trivial
  have pa : ∀ a, r15.1.a = some a → a.block < r15.2.next ∧ h14.next ≤ a.block := As.lt
  have pb : ∀ a, r17.1.a = some a → a.block < r17.2.next ∧ h16.next ≤ a.block := Ai.lt
  have R1 : Row encS r37.2 r15.1 l1 := by
   have a := As.row
   have a := a.chg c16 fun x hx q => by have := (pa x hx).2; omega
   have a := a.chg c17 fun x hx q => by have := (pa x hx).2; omega
   have a := a.chg c18 fun x hx q => by have := (pa x hx).2; omega
   exact a.chg c37 fun x hx q => by have := (pa x hx).2; omega
  have R2 : RowW 6 itC r37.2 r17.1 l2 := by
   have a := Ai.row itC_len
   have a := a.chg c18 fun x hx q => by have := (pb x hx).2; omega
   exact a.chg c37 fun x hx q => by have := (pb x hx).2; omega
  have m1 : l1.length ≤ 4096 := by
   have h1 : (runL (opB 32) a1 s1).2 = s2 := by rw [ea2]
   cases hs2 : s2 with
   | none => exact absurd hs2 s2n
   | some m =>
    rw [hs2] at h1
    obtain ⟨g1, gl⟩ := runB_inv h1
    rw [ea2] at gl
    obtain ⟨_, g3⟩ := opS_inv (s := some ((bl s).drop 5)) (most := 4096) (by rw [ea1]; exact g1)
    rw [ea1] at g3
    dsimp only at gl g3
    omega
  have m2 : l2.length ≤ 4096 := by
   have h1 : (runL opI a3 s3).2 = some [] := by rw [ea4, c3]
   obtain ⟨g1, gl⟩ := runI_inv h1
   rw [ea4] at gl
   obtain ⟨_, g3⟩ := opS_inv (s := s2) (most := 4096) (by rw [ea3]; exact g1)
   rw [ea3] at g3
   dsimp only at gl g3
   omega
  refine .ifn (by simp [h0]) (.bnd (sldA_at g37 rfl) (.bnd (show decC [.l, .l] [.slice r15.1.a r15.1.len r15.1.cap, .slice r17.1.a r17.1.len r17.1.cap] = some (r15.1, r17.1) from rfl) (.call (check_file (by omega) R1 R2 (by omega) (by omega)) fun r40 ⟨q40, k40⟩ => ?_)))
  have n40 := k40.nx
  have g40 := k40.got (by omega) g137
  rw [q40]
  by_cases c4 : chkF l1 l2 = 0
  ·have hd : decF (bl s) = some (l1, l2) := by
    unfold decF
    rw [if_pos ⟨hlen, c1⟩, eF, if_pos ⟨c3, c4⟩]
   rw [c4, h23]
   have g40f := k40.got (by omega) g37
   refine .ifn (by decide) (.bnd rfl (.bnd (sldA_at g40f rfl) (.bnd (show decC [.l, .l] [.slice r15.1.a r15.1.len r15.1.cap, .slice r17.1.a r17.1.len r17.1.cap] = some (r15.1, r17.1) from rfl) (.bnd rfl (Wp.stL g40 rfl rfl rfl (by decide) fun h33 c33 n33 g33 => .bnd rfl (.bnd (sldA_at g33 rfl) (.bnd rfl (.of ⟨fun f hf => ?_, fun hn => (by rw [hd] at hn; cases hn), (kz.trans k40).keepsS c33 fun y hy => by subst hy; omega⟩))))))))
   rw [hd] at hf
   cases hf
   exact ⟨rfl, (R1.keeps k40).chg c33 fun x hx q => by have := (pa x hx).2; omega, (R2.keeps k40).chg c33 fun x hx q => by have := (pb x hx).2; omega, fun a ha => by have := (pa a ha).2; omega, fun a ha => by have := (pb a ha).2; omega⟩
  ·have hd : decF (bl s) = none := by
    unfold decF
    rw [if_pos ⟨hlen, c1⟩, eF, if_neg (fun q => c4 q.2)]
   have hb : (chkF l1 l2 != 0) = true := by simpa using c4
   rw [hb]
   exact bad23 _ _ hd (kz.trans k40) g40 (by omega)
end
end Gc
namespace Gc
open Go Gx
def zI : List Value := [.string ⟨#[]⟩, .string ⟨#[]⟩, .int .i64 0, .int .i64 0, .int .i64 0, .int .i64 0]
theorem zI_len (n : Nat) : (zerosL n zI).length = n * 6 := by rw [zerosL_eq]; simp [List.length_flatten, zI]
theorem zI_drop (n m : Nat) : (zerosL n zI).drop (m * 6) = zerosL (n - m) zI := by
 rw [zerosL_eq, zerosL_eq]
 induction m generalizing n with
 | zero => simp
 | succ m ih =>
  cases n with
  | zero => simp
  | succ n =>
   rw [List.replicate_succ, List.flatten_cons, show (m + 1) * 6 = zI.length + m * 6 by rw [show zI.length = 6 from rfl]; omega, List.drop_length_add_append, ih]
   congr 2; omega
def flatTo (F : Nat → List It) (i : Nat) : List It := (List.range i).flatMap F
def allF (F : Nat → List It) : List It := flatTo F 256
theorem flatTo_s (F : Nat → List It) (i : Nat) : flatTo F (i + 1) = flatTo F i ++ F i := by simp [flatTo, List.range_succ]
theorem flatTo_len (F : Nat → List It) : ∀ i, (flatTo F i).length = cntTo F i
 | 0 => rfl
 | i + 1 => by rw [flatTo_s, List.length_append, flatTo_len F i, cntTo_s]
theorem cntTo_mono (F : Nat → List It) {i j : Nat} (h : i ≤ j) : cntTo F i ≤ cntTo F j := by
 induction j with
 | zero =>
  have : i = 0 := by omega
  subst this; exact Nat.le_refl _
 | succ j ih =>
  by_cases e : i = j + 1
  ·subst e; exact Nat.le_refl _
  ·rw [cntTo_s]; have := ih (by omega); omega
section
variable {k base tb : Nat} {h : AHeap} {sl : Nat → Slc} {F : Nat → List It} {s : Slc} {xs : List It}
theorem SlotR.rdS (A : SlotR base h tb s xs) : Gx.rdS 6 s h = some (xs.flatMap itC) := by
 rcases A with ⟨rfl, rfl⟩ | ⟨b, sp, cap, R, A⟩
 ·rfl
 ·rw [A.s]
  simp only [Gx.rdS]
  rw [rdL_ok A.blk (by rw [List.length_append, flat_len]; omega), List.drop_zero, show xs.length * 6 = (xs.flatMap itC).length from (flat_len xs).symm, List.take_left']
  rfl
theorem cut_tail (l ys : List It) (n m : Nat) (hm : m = l.length) : (l.flatMap itC ++ zerosL n zI).drop (0 + m * 6 + (ys.flatMap itC).length) = zerosL (n - ys.length) zI := by
 subst hm
 rw [List.drop_append, List.drop_of_length_le (by rw [flat_len]; omega), List.nil_append, flat_len, flat_len, show 0 + l.length * 6 + ys.length * 6 - l.length * 6 = ys.length * 6 by omega, zI_drop]
theorem grow_spec (D : CallF) (n : Nat) (hn : n ≤ 1000000000) (h : AHeap) : slices_Grow_api_Item_api_Item k D ⟨none, 0, 0⟩ (n : Int) h =
  some (if n = 0 then (⟨none, 0, 0⟩, h) else (⟨some ⟨h.next, 0, some 7⟩, 0, n⟩, h.new (.cells (zerosL n zI) 57 true 0))) := by
 simp only [slices_Grow_api_Item_api_Item]
 refine jn (ifn (by simp) (jn (bnd rfl ?_)))
 have e0 : IntKind.wrap .i64 (0 - ((0 : Nat) : Int)) = 0 := by decide
 have e1 : IntKind.wrap .i64 ((n : Int) - 0) = (n : Int) := by rw [Gx.w64 _ (by omega)]; omega
 dsimp only
 rw [show (((0 : Nat) : Int) : Int) = 0 from rfl] at *
 rw [show IntKind.wrap .i64 ((0 : Int) - 0) = 0 from rfl, e1]
 by_cases c : n = 0
 ·subst c
  exact ifn (by decide) (by rfl)
 ·rw [if_neg c]
  refine ifp (by simp; omega) (bnd rfl (bnd (v := ⟨none, 0, 0⟩) rfl (ifp (by omega) ?_)))
  have ea : appendA 6 64 57 h ⟨none, 0, 0⟩ (zerosL (n : Int).toNat zI) (n : Int).toNat = some (⟨some ⟨h.next, 0, some 7⟩, n, n⟩, h.new (.cells (zerosL n zI) 57 true 0)) := by
   unfold appendA
   rw [Int.toNat_natCast, if_neg (by show ¬ 0 + n ≤ 0; omega), if_pos (by show 2 * (0 + n) * 64 ≤ 281474976710656 ∧ 1 ≤ 64; omega)]
  refine bnd ea (bnd (subL_hi (hi := 0) (by rfl) (Nat.zero_le _)) rfl)
theorem all_spec (hk : 300 ≤ k) (D : CallF) (T : Tab base h tb sl F) (hN : cntTo F 256 ≤ 1000000000) :
  Gx.Wp (lookup_Table_All k D (some ⟨tb, 0, none⟩) h) fun z => AccW 6 itC 57 h.next z.2 z.1 (allF F) ∧ Keeps h z.2 := by
 simp only [lookup_Table_All]
 have es : Gx.subA 256 1 ⟨tb, 0 + 0, none⟩ none none none = some ⟨some ⟨tb, 0, some 0⟩, 256, 256⟩ := rfl
 refine .bnd rfl (.bnd es ?_)
 suffices hs : Gx.Wp (slices_Concat_api_Item_api_Item k D ⟨some ⟨tb, 0, some 0⟩, 256, 256⟩ h) fun z => AccW 6 itC 57 h.next z.2 z.1 (allF F) ∧ Keeps h z.2 from .call hs fun r q => .of q
 simp only [slices_Concat_api_Item_api_Item]
 have hix : ∀ i : Nat, i < 256 → Gx.idxL 1 ⟨some ⟨tb, 0, some 0⟩, 256, 256⟩ (i : Int) = some ⟨tb, i, none⟩ := fun i hi => by
  simp only [idxL]
  rw [if_pos (by omega)]
  simp
 refine Gx.Wp.jn fun j4 h4 => ?_
 unfold slices_Concat_api_Item_api_Item_l1
 obtain ⟨bot, eb⟩ := iterK_of (fun _ _ _ _ _ _ => none) (slices_Concat_api_Item_api_Item_l1b k D j4) (show 256 + 1 ≤ k by omega)
 rw [eb]
 have cm : ∀ i, i ≤ 256 → cntTo F i ≤ 1000000000 := fun i hi => Nat.le_trans (cntTo_mono F hi) hN
 have loop : ∀ (d i : Nat), i + d = 256 → Gx.Wp (iterK bot (d + 1) (slices_Concat_api_Item_api_Item_l1b k D j4) ⟨some ⟨tb, 0, some 0⟩, 256, 256⟩ (cntTo F i : Int) ⟨some ⟨tb, 0, some 0⟩, 256, 256⟩ 256 (i : Int) h) fun z => AccW 6 itC 57 h.next z.2 z.1 (allF F) ∧ Keeps h z.2 := fun d => by
  induction d with
  | succ d ih =>
   intro i hd
   rw [iterK_s]; simp only [slices_Concat_api_Item_api_Item_l1b]
   have S := T.slot i (by omega)
   have hc := cm (i + 1) (by omega)
   rw [cntTo_s] at hc
   refine .ifp (by simp; omega) (Gx.Wp.jn fun j32 h32 => .bnd (hix i (by omega)) (.bnd (sldL_at T.blk (tabC_get _ (by omega))) ?_))
   have ew : IntKind.wrap .i64 ((cntTo F i : Int) + ((sl i).len : Int)) = (cntTo F (i + 1) : Int) := by
    rw [Gx.w64 _ (by rw [S.len]; omega), cntTo_s, S.len]; omega
   dsimp only
   rw [ew]
   refine .ifn (by simp) ?_
   rw [h32]
   dsimp only
   rw [Gx.w1 (by omega)]
   exact ih (i + 1) (by omega)
  | zero =>
   intro i hd
   obtain rfl : i = 256 := by omega
   rw [iterK_s]; simp only [slices_Concat_api_Item_api_Item_l1b]
   refine .ifn (by decide) ?_
   rw [h4]
   refine .bnd (grow_spec D (cntTo F 256) hN h) (Gx.Wp.jn fun j8 h8 => ?_)
   unfold slices_Concat_api_Item_api_Item_l0
   obtain ⟨bot2, eb2⟩ := iterK_of (fun _ _ _ _ _ => none) (slices_Concat_api_Item_api_Item_l0b k D j8) (show 256 + 1 ≤ k by omega)
   rw [eb2]
   by_cases c0 : cntTo F 256 = 0
   ·rw [if_pos c0]
    have hz : ∀ i, i < 256 → F i = [] := fun i hi => by
     have := cntTo_mono F (show i + 1 ≤ 256 by omega)
     rw [cntTo_s] at this
     exact List.length_eq_zero_iff.1 (by omega)
    have fin : ∀ (d i : Nat), i + d = 256 → Gx.Wp (iterK bot2 (d + 1) (slices_Concat_api_Item_api_Item_l0b k D j8) ⟨none, 0, 0⟩ ⟨some ⟨tb, 0, some 0⟩, 256, 256⟩ 256 (i : Int) h) fun z => AccW 6 itC 57 h.next z.2 z.1 (allF F) ∧ Keeps h z.2 := fun d => by
     induction d with
     | zero =>
      intro i hd
      obtain rfl : i = 256 := by omega
      rw [iterK_s]; simp only [slices_Concat_api_Item_api_Item_l0b]
      refine .ifn (by decide) ?_
      rw [h8]
      have : allF F = [] := List.length_eq_zero_iff.1 (by unfold allF; rw [flatTo_len]; exact c0)
      rw [this]
      exact .of ⟨AccW.nil _ _ _ _ _, .refl _ _⟩
     | succ d ih =>
      intro i hd
      rw [iterK_s]; simp only [slices_Concat_api_Item_api_Item_l0b]
      have S := T.slot i (by omega)
      have hl : (sl i).len = 0 := by rw [S.len, hz i (by omega)]; rfl
      refine .ifp (by simp; omega) (.bnd (hix i (by omega)) (.bnd (sldL_at T.blk (tabC_get _ (by omega))) (.bnd S.rdS ?_)))
      have ea : appendA 6 64 57 h ⟨none, 0, 0⟩ ((F i).flatMap itC) (sl i).len = some (⟨none, 0, 0⟩, h) := by
       unfold appendA
       rw [hl, if_pos (Nat.le_refl _)]
      refine .bnd ea ?_
      rw [Gx.w1 (by omega)]
      exact ih (i + 1) (by omega)
    exact fin 256 0 (by omega)
   ·rw [if_neg c0]
    have fin : ∀ (d i : Nat) (H : AHeap), i + d = 256 → Keeps h H → h.next < H.next → H.get h.next = some (.cells ((flatTo F i).flatMap itC ++ zerosL (cntTo F 256 - cntTo F i) zI) 57 true 0) →
      Gx.Wp (iterK bot2 (d + 1) (slices_Concat_api_Item_api_Item_l0b k D j8) ⟨some ⟨h.next, 0, some 7⟩, cntTo F i, cntTo F 256⟩ ⟨some ⟨tb, 0, some 0⟩, 256, 256⟩ 256 (i : Int) H) fun z => AccW 6 itC 57 h.next z.2 z.1 (allF F) ∧ Keeps h z.2 := fun d => by
     induction d with
     | zero =>
      intro i H hd kp hlt hg
      obtain rfl : i = 256 := by omega
      rw [iterK_s]; simp only [slices_Concat_api_Item_api_Item_l0b]
      refine .ifn (by decide) ?_
      rw [h8]
      have hl : (allF F).length = cntTo F 256 := flatTo_len F 256
      rw [Nat.sub_self, show zerosL 0 zI = [] from rfl, List.append_nil] at hg
      refine .of ⟨⟨.inr ⟨h.next, by rw [hl], hg, fun e => c0 (by rw [← hl, e]; rfl)⟩, fun a ha => by cases ha; exact ⟨hlt, Nat.le_refl _⟩⟩, kp⟩
     | succ d ih =>
      intro i H hd kp hlt hg
      rw [iterK_s]; simp only [slices_Concat_api_Item_api_Item_l0b]
      have T' := T.keeps kp
      have S := T'.slot i (by omega)
      have hcm := cntTo_mono F (show i + 1 ≤ 256 by omega)
      rw [cntTo_s] at hcm
      have ef : flatTo F (i + 1) = flatTo F i ++ F i := flatTo_s F i
      have elen : ((flatTo F i).flatMap itC).length = cntTo F i * 6 := by rw [flat_len, flatTo_len]
      refine .ifp (by simp; omega) (.bnd (hix i (by omega)) (.bnd (sldL_at T'.blk (tabC_get _ (by omega))) (.bnd S.rdS ?_)))
      by_cases ce : F i = []
      ·have hl : (sl i).len = 0 := by rw [S.len, ce]; rfl
       have ea : appendA 6 64 57 H ⟨some ⟨h.next, 0, some 7⟩, cntTo F i, cntTo F 256⟩ ((F i).flatMap itC) (sl i).len = some (⟨some ⟨h.next, 0, some 7⟩, cntTo F i, cntTo F 256⟩, H) := by
        unfold appendA
        rw [hl, if_pos (by show cntTo F i + 0 ≤ cntTo F 256; omega)]
        rfl
       refine .bnd ea ?_
       rw [Gx.w1 (by omega)]
       have e2 : cntTo F (i + 1) = cntTo F i := by rw [cntTo_s, ce]; rfl
       have := ih (i + 1) H (by omega) kp hlt (by rw [ef, ce, List.append_nil, e2]; exact hg)
       rw [e2] at this
       exact this
      ·have hne : (F i).flatMap itC ≠ [] := fun e => by
        have := flat_len (F i)
        rw [e] at this
        exact ce (List.length_eq_zero_iff.1 (by simp at this; omega))
       have hlz : (F i).length ≠ 0 := fun e => ce (List.length_eq_zero_iff.1 e)
       have hclen : ((flatTo F i).flatMap itC ++ zerosL (cntTo F 256 - cntTo F i) zI).length = cntTo F 256 * 6 := by
        rw [List.length_append, elen, zI_len]; omega
       have ew := wrL_ok (o := 0 + cntTo F i * 6) (vs := (F i).flatMap itC) hg (by rw [hclen, flat_len, Nat.zero_add, ← Nat.add_mul]; exact Nat.mul_le_mul_right _ hcm) (flat_one _) hne
       have esp : splice ((flatTo F i).flatMap itC ++ zerosL (cntTo F 256 - cntTo F i) zI) (0 + cntTo F i * 6) ((F i).flatMap itC) = (flatTo F (i + 1)).flatMap itC ++ zerosL (cntTo F 256 - cntTo F (i + 1)) zI := by
        unfold splice
        have e1 : ((flatTo F i).flatMap itC ++ zerosL (cntTo F 256 - cntTo F i) zI).take (0 + cntTo F i * 6) = (flatTo F i).flatMap itC := by rw [Nat.zero_add, ← elen, List.take_left']; rfl
        have e2 := cut_tail (flatTo F i) (F i) (cntTo F 256 - cntTo F i) (cntTo F i) (flatTo_len F i).symm
        rw [Nat.sub_sub, ← cntTo_s F i] at e2
        rw [e1, e2, ef, List.flatMap_append]
       rw [esp] at ew
       have ea : appendA 6 64 57 H ⟨some ⟨h.next, 0, some 7⟩, cntTo F i, cntTo F 256⟩ ((F i).flatMap itC) (sl i).len = some (⟨some ⟨h.next, 0, some 7⟩, cntTo F (i + 1), cntTo F 256⟩, H.set h.next (.cells ((flatTo F (i + 1)).flatMap itC ++ zerosL (cntTo F 256 - cntTo F (i + 1)) zI) 57 true 0)) := by
        unfold appendA
        rw [S.len, if_pos (by show cntTo F i + (F i).length ≤ cntTo F 256; exact hcm)]
        simp only
        rw [if_neg hlz, ew, cntTo_s F i]
        rfl
       refine .bnd ea ?_
       rw [Gx.w1 (by omega)]
       exact ih (i + 1) _ (by omega) (kp.set (Nat.le_refl _)) (by simpa using hlt) (by simp)
    have := fin 256 0 (h.new (.cells (zerosL (cntTo F 256) zI) 57 true 0)) (by omega) (Keeps.new h _) (by simp) (by simp [flatTo, cntTo])
    exact this
 exact loop 256 0 (by omega)
end
end Gc
namespace Gc
open Go Gx Go.RowKit Go.Maps
end Gc
namespace Gc
open Go Gx Go.RowKit Go.Maps
theorem eqIt (x y : It) : ((x.1 == y.1) && ((x.2.1 == y.2.1) && ((x.2.2.1 == y.2.2.1) && ((x.2.2.2.1 == y.2.2.2.1) && ((x.2.2.2.2.1 == y.2.2.2.2.1) && (x.2.2.2.2.2 == y.2.2.2.2.2)))))) = decide (x = y) := eqI x y
section
variable {k base tb : Nat} {h : AHeap} {sl : Nat → Slc} {F : Nat → List It} {s t : Slc} {xs ys : List It}
theorem same_spec (D : CallF) (R : RowW 6 itC h s xs) (S : RowW 6 itC h t ys) (hl : xs.length + 2 ≤ k) (hb : xs.length ≤ 1000000000) : Gx.Wp (law15_sameItems k D s t h) fun z => z.1 = decide (xs = ys) ∧ z.2 = h := by
 simp only [law15_sameItems]
 by_cases hc : xs.length = ys.length
 rotate_left
 ·exact .ifp (by rw [R.len, S.len]; simp; omega) (.of ⟨by symm; exact decide_eq_false (fun e => hc (by rw [e])), rfl⟩)
 refine .ifn (by rw [R.len, S.len]; simp; omega) (Gx.Wp.jn fun j2 h2 => ?_)
 unfold law15_sameItems_l0
 obtain ⟨bot, eb⟩ := iterK_of (fun _ _ _ _ => none) (law15_sameItems_l0b k D j2) (show xs.length + 1 ≤ k by omega)
 rw [eb]
 have loop : ∀ (d i : Nat), i + d = xs.length → xs.take i = ys.take i → Gx.Wp (iterK bot (d + 1) (law15_sameItems_l0b k D j2) s t (i : Int) h) fun z => z.1 = decide (xs = ys) ∧ z.2 = h := fun d => by
  induction d with
  | zero =>
   intro i hd ht
   rw [iterK_s]; simp only [law15_sameItems_l0b]
   refine .ifn (by rw [R.len]; simp; omega) ?_
   rw [h2]
   rw [List.take_of_length_le (by omega), List.take_of_length_le (by omega)] at ht
   exact .of ⟨by symm; exact decide_eq_true ht, rfl⟩
  | succ d ih =>
   intro i hd ht
   rw [iterK_s]; simp only [law15_sameItems_l0b]
   obtain ⟨x, hx⟩ := isome (l := xs) (i := i) (by omega)
   obtain ⟨y, hy⟩ := isome (l := ys) (i := i) (by omega)
   obtain ⟨q, b1, b2, _⟩ := R.ld itC_len (by decide) hx
   obtain ⟨q', c1, c2, _⟩ := S.ld itC_len (by decide) hy
   refine .ifp (by rw [R.len]; simp; omega) (.bnd b1 (.bnd b2 (.bnd (decI6 x) (.bnd c1 (.bnd c2 (.bnd (decI6 y) ?_))))))
   rw [eqIt]
   by_cases e : x = y
   ·refine .ifn (by simp [e]) ?_
    rw [Gx.w1 (by omega)]
    refine ih (i + 1) (by omega) ?_
    rw [List.take_add_one, List.take_add_one, ht, hx, hy, e]
   ·refine .ifp (by simp [e]) (.of ⟨?_, rfl⟩)
    symm; refine decide_eq_false (fun e2 => e ?_)
    rw [e2, hy] at hx; exact (Option.some.inj hx).symm
 exact loop xs.length 0 (by omega) rfl
end
end Gc
namespace Gc
open Go Gx Go.RowKit Go.Maps
section
variable {k base tb : Nat} {h : AHeap} {sl : Nat → Slc} {F : Nat → List It} {s t : Slc} {xs ys : List ByteArray}
def WR (w : Nat) (h : AHeap) (s : Slc) : Prop := (s.len ≠ 0 → s.a ≠ none) ∧ ∀ a, s.a = some a → ∃ c e, h.get a.block = some (.cells c e true 0) ∧ a.off + s.len * w ≤ c.length
theorem WR.chg {S : Nat → Prop} {w : Nat} {h h' : AHeap} {s : Slc} (W : WR w h s) (c : Chg S h h') (hs : ∀ a, s.a = some a → a.block < h.next ∧ ¬ S a.block) : WR w h' s :=
 ⟨W.1, fun a ha => by
  obtain ⟨cc, e, hg, hl⟩ := W.2 a ha
  exact ⟨cc, e, c.got (hs a ha).1 (hs a ha).2 hg, hl⟩⟩
end
end Gc
namespace Gc
open Go Gx Go.RowKit Go.Maps
section
variable {k base tb : Nat} {h : AHeap} {sl : Nat → Slc} {F : Nat → List It} {s t : Slc} {xs ys : List ByteArray}
end
theorem mem_allF {F : Nat → List It} {x : It} : x ∈ allF F ↔ ∃ i, i < 256 ∧ x ∈ F i := by
 unfold allF flatTo
 rw [List.mem_flatMap]
 simp
end Gc
namespace Gc
open Go Gx Go.RowKit Go.Maps
theorem addF_mem {F : Nat → List It} {x y : It} {i : Nat} : y ∈ addF F x i ↔ (y = x ∧ i = idx x.1) ∨ y ∈ F i := by
 unfold addF upd
 split
 ·rename_i e
  subst e
  rw [put_mem]
  constructor
  ·rintro (rfl | h)
   ·exact .inl ⟨rfl, rfl⟩
   ·exact .inr h
  ·rintro (⟨rfl, _⟩ | h)
   ·exact .inl rfl
   ·exact .inr h
 ·rename_i e
  constructor
  ·exact .inr
  ·rintro (⟨_, e2⟩ | h)
   ·exact absurd e2 e
   ·exact h
theorem addL_mem : ∀ {xs : List It} {F : Nat → List It} {y : It} {i : Nat}, y ∈ addL F xs i ↔ (y ∈ xs ∧ i = idx y.1) ∨ y ∈ F i
 | [], F, y, i => by simp [addL]
 | x :: xs, F, y, i => by
  show y ∈ addL (addF F x) xs i ↔ _
  rw [addL_mem, addF_mem, List.mem_cons]
  constructor
  ·rintro (⟨h, e⟩ | ⟨rfl, e⟩ | h)
   ·exact .inl ⟨.inr h, e⟩
   ·exact .inl ⟨.inl rfl, e⟩
   ·exact .inr h
  ·rintro (⟨rfl | h, e⟩ | h)
   ·exact .inr (.inl ⟨rfl, e⟩)
   ·exact .inl ⟨h, e⟩
   ·exact .inr (.inr h)
theorem addL_app (F : Nat → List It) (xs ys : List It) : addL F (xs ++ ys) = addL (addL F xs) ys := by unfold addL; rw [List.foldl_append]
def InT (F : Nat → List It) : Prop := ∀ i x, i < 256 → x ∈ F i → idx x.1 = i
theorem addL_in {xs : List It} {F : Nat → List It} (h : InT F) : InT (addL F xs) := fun i x hi hx => by
 rcases addL_mem.1 hx with ⟨_, e⟩ | g
 ·exact e.symm
 ·exact h i x hi g
theorem idx_less {a b : ByteArray} (h : idx a < idx b) : bl a < bl b := by
 unfold idx at h
 cases ha : bl a with
 | nil =>
  cases hb : bl b with
  | nil => rw [ha, hb] at h; simp at h
  | cons y ys => exact List.nil_lt_cons _ _
 | cons x xs =>
  cases hb : bl b with
  | nil => rw [ha, hb] at h; simp at h
  | cons y ys =>
   rw [ha, hb] at h
   exact List.cons_lt_cons_iff.2 (.inl h)
theorem idx_lessI {x y : It} (h : idx x.1 < idx y.1) : lessI x y = true := by
 rw [lessI_iff]
 exact .inl (idx_less h)
theorem flatTo_rises {F : Nat → List It} (hr : RisesT F) (hin : InT F) : ∀ n, n ≤ 256 → Rises (flatTo F n)
 | 0, _ => List.Pairwise.nil
 | n + 1, h => by
  rw [flatTo_s]
  unfold Rises
  rw [List.pairwise_append]
  refine ⟨flatTo_rises hr hin n (by omega), hr n (by omega), fun a ha b hb => idx_lessI ?_⟩
  unfold flatTo at ha
  obtain ⟨i, hi, ha⟩ := List.mem_flatMap.1 ha
  have hi' := List.mem_range.1 hi
  rw [hin i a (by omega) ha, hin n b (by omega) hb]
  exact hi'
theorem allF_rises {F : Nat → List It} (hr : RisesT F) (hin : InT F) : Rises (allF F) := flatTo_rises hr hin 256 (Nat.le_refl _)
theorem flatTo_ext {F G : Nat → List It} : ∀ n, (∀ i, i < n → F i = G i) → flatTo F n = flatTo G n
 | 0, _ => rfl
 | n + 1, h => by rw [flatTo_s, flatTo_s, flatTo_ext n fun i hi => h i (by omega), h n (by omega)]
theorem cntTo_ext {F G : Nat → List It} (n : Nat) (h : ∀ i, i < n → F i = G i) : cntTo F n = cntTo G n := by rw [← flatTo_len, ← flatTo_len, flatTo_ext n h]
theorem cnt_nil {F : Nat → List It} (h : ∀ i, i < 256 → F i = []) : cntTo F 256 = 0 := by
 rw [cntTo_ext (G := fun _ => []) 256 h]
 have : ∀ n, cntTo (fun _ => []) n = 0 := fun n => by
  induction n with
  | zero => rfl
  | succ n ih => rw [cntTo_s, ih]; rfl
 exact this 256
end Gc
namespace Gc
open Go Gx Go.RowKit Go.Maps
abbrev Tr := Int × Int × Int × Unit
abbrev T3 : DT := .pair (.int .i64) (.pair (.int .i64) (.pair (.int .i64) .unit))
end Gc
namespace Gc
open Go Gx Go.RowKit Go.Maps
def e0F : Nat → List It := fun _ => []
theorem e0_rises : RisesT e0F := fun _ _ => List.Pairwise.nil
theorem e0_max : MaxT e0F 0 := fun _ _ => Nat.le_refl _
theorem e0_in : InT e0F := fun _ _ _ h => by cases h
theorem fill_max (xs : List It) : MaxT (addL e0F xs) xs.length := by have := addL_max (xs := xs) e0_max; rwa [Nat.zero_add] at this
theorem fill_rises (xs : List It) : RisesT (addL e0F xs) := addL_rises e0_rises
structure Two (h H : AHeap) (ta tb : Nat) (sla slb : Nat → Slc) (Fa Fb : Nat → List It) : Prop where
 A : Tab h.next H ta sla Fa
 B : Tab h.next H tb slb Fb
 ap : ∀ y, TOwn ta sla y → ¬ TOwn tb slb y
 kp : Keeps h H
section
variable {k ta tb : Nat} {h H H' : AHeap} {sla slb sl' : Nat → Slc} {Fa Fb F' : Nat → List It} {s : Slc} {l : List Tr}
theorem Two.keeps (W : Two h H ta tb sla slb Fa Fb) (c : Keeps H H') : Two h H' ta tb sla slb Fa Fb := ⟨W.A.keeps c, W.B.keeps c, W.ap, W.kp.trans c⟩
theorem oneRow {H : AHeap} {b : Nat} (x : It) (g : H.get b = some (.cells (itC x) 57 true 0)) (hb : b < H.next) : RowW 6 itC H ⟨some ⟨b, 0, some 0⟩, 1, 1⟩ [x] := by
 have := rowW_blk (w := 6) (enc := itC) itC_len (n := 1) (cap := 1) (sp := some 0) (ys := [x]) (by simpa using g) hb (Nat.le_refl _)
 exact this
end
end Gc
namespace Gc
open Go Gx Go.RowKit Go.Maps
section
variable {k ta tb : Nat} {h H H' : AHeap} {sla slb sl' : Nat → Slc} {Fa Fb F' : Nat → List It} {s t : Slc} {l : List Tr} {xs : List It}
end
end Gc
namespace Gc
open Go Gx Go.RowKit Go.Maps
section
variable {k : Nat} {h : AHeap} {s : Slc} {l : List Tr}
theorem cnt_fill {xs : List It} {n : Nat} (hn : xs.length ≤ n) : ∀ (F : Nat → List It) (m : Nat), cntTo F 256 ≤ m → cntTo (addL F xs) 256 ≤ m + n := by
 induction xs generalizing n with
 | nil => intro F m hm; show cntTo F 256 ≤ _; omega
 | cons x xs ih =>
  intro F m hm
  have h1 : cntTo (addF F x) 256 ≤ m + 1 := by
   have : ∀ j, j ≤ 256 → cntTo (addF F x) j ≤ cntTo F j + (if idx x.1 < j then 1 else 0) := fun j => by
    induction j with
    | zero => intro _; simp [cntTo]
    | succ j ihj =>
     intro hj
     have := ihj (by omega)
     rw [cntTo_s, cntTo_s]
     by_cases e : j = idx x.1
     ·subst e
      rw [if_neg (Nat.lt_irrefl _)] at this
      rw [if_pos (Nat.lt_succ_self _)]
      have : (addF F x (idx x.1)).length ≤ (F (idx x.1)).length + 1 := by unfold addF upd; rw [if_pos rfl]; exact put_len _ _
      omega
     ·have e2 : (addF F x j) = F j := by unfold addF upd; rw [if_neg e]
      rw [e2]
      by_cases e3 : idx x.1 < j
      ·rw [if_pos e3] at this; rw [if_pos (by omega)]; omega
      ·rw [if_neg e3] at this; rw [if_neg (by omega)]; omega
   have := this 256 (Nat.le_refl _)
   rw [if_pos (idx_lt _)] at this
   omega
  have := ih (n := n - 1) (by simp at hn; omega) (addF F x) (m + 1) h1
  simp at hn
  show cntTo (addL (addF F x) xs) 256 ≤ _
  omega
theorem cnt_e0 : cntTo e0F 256 = 0 := cnt_nil fun _ _ => rfl
end
end Gc
namespace Gc
open Go Gx
abbrev Tr2 := Int × Int × Unit
def tr2C (x : Tr2) : List Value := [.int .i64 x.1, .int .i64 x.2.1]
theorem tr2C_len (x : Tr2) : (tr2C x).length = 2 := rfl
abbrev T2D : DT := .pair (.int .i64) (.pair (.int .i64) .unit)
theorem rep_slc2 {h : AHeap} {T : DT} {c : Slc} {l : List T.V} (R : Rep h (.list T) l [.slice c.a c.len c.cap]) : c.len = l.length ∧ (∀ a, c.a = some a → a.block < h.next) ∧
  ∀ (i : Nat) (x : T.V), l[i]? = some x → ∃ a cc e r fz cx, c.a = some a ∧ h.get a.block = some (.cells cc e r fz) ∧ cx.length = T.w ∧ (∀ (j : Nat) (v : Value), cx[j]? = some v → cc[a.off + i * T.w + j]? = some v) ∧ Rep h T x cx := by
 obtain ⟨sl, es, hl, hb, hx⟩ := R
 have e0 : c = sl := by
  obtain ⟨a, b, m⟩ := sl
  obtain ⟨a', b', m'⟩ := c
  simp only [List.cons.injEq, Value.slice.injEq, and_true] at es
  obtain ⟨rfl, rfl, rfl⟩ := es
  rfl
 subst e0
 exact ⟨hl, hb, hx⟩
theorem rep_tr2 {h : AHeap} {c : Slc} {l : List Tr2} (R : Rep h (.list T2D) l [.slice c.a c.len c.cap]) : RowW 2 tr2C h c l := by
 obtain ⟨hl, hb, hx⟩ := rep_slc2 R
 refine ⟨hl, fun i x hi => ?_⟩
 obtain ⟨a, cc, e, r, fz, cx, h1, h2, h3, h4, h5⟩ := hx i x hi
 refine ⟨a, cc, e, r, fz, h1, hb a h1, h2, fun j v hj => h4 j v ?_⟩
 obtain ⟨c1, c2, e1, ⟨e2, _⟩, c3, c4, e3, ⟨e4, _⟩, e7⟩ := h5
 have e7' : c4 = [] := e7
 rw [e1, e2, e3, e4, e7']
 exact hj
theorem rep_rfl (n : Nat) : repeatA (bA [UInt8.ofNat n]) 32 = some (rep32 n) := rfl
def i16 (x : Tr2) (i : Nat) : It := (rep32 (IntKind.wrap .u8 x.1).toNat, rep32 (IntKind.wrap .u8 x.2.1).toNat, 2, ((i % 3 : Nat) : Int), ((1 + i % 5 : Nat) : Int), ((i % 7 : Nat) : Int))
theorem i16_ok (x : Tr2) (i : Nat) : okI (i16 x i) := by
 refine ⟨rfl, rfl, .inr rfl, ?_, ?_, ?_⟩
 ·show (0 : Int) ≤ ((i % 3 : Nat) : Int) ∧ ((i % 3 : Nat) : Int) ≤ 65536
  omega
 ·show (1 : Int) ≤ ((1 + i % 5 : Nat) : Int) ∧ ((1 + i % 5 : Nat) : Int) ≤ 65536
  omega
 ·show (0 : Int) ≤ ((i % 7 : Nat) : Int) ∧ ((i % 7 : Nat) : Int) ≤ 65536
  omega
section
variable {k : Nat} {h : AHeap} {s : Slc} {l : List Tr2}
theorem items_spec (hk : 1000 ≤ k) (R : RowW 2 tr2C h s l) : Gx.Wp (law16_items k (DD k) s h) fun z => ∃ its, AccW 6 itC 57 h.next z.2 z.1 its ∧ its.length ≤ 100 ∧ (∀ x ∈ its, okI x) ∧ its.Pairwise LessI ∧ Keeps h z.2 := by
 simp only [law16_items]
 obtain ⟨h1, a1, k1, T1⟩ := new_spec k (DD k) h
 refine .bnd a1 (.ifn (by simp) (Gx.Wp.jn fun j4 h4 => ?_))
 unfold law16_items_l0
 obtain ⟨bot, eb⟩ := iterK_of (fun _ _ _ _ => none) (law16_items_l0b k (DD k) j4) (show 100 + 1 ≤ k by omega)
 rw [eb]
 have nk1 := k1.nx
 have fin : ∀ H sl xs, Tab h.next H h.next sl (addL e0F xs) → (∀ x ∈ xs, okI x) → xs.length ≤ 100 → Keeps h H → Gx.Wp (j4 (some ⟨h.next, 0, none⟩) H) fun z => ∃ its, AccW 6 itC 57 h.next z.2 z.1 its ∧ its.length ≤ 100 ∧ (∀ x ∈ its, okI x) ∧ its.Pairwise LessI ∧ Keeps h z.2 := fun H sl xs T hok hl kp => by
  rw [h4]
  have hc : cntTo (addL e0F xs) 256 ≤ 0 + 100 := cnt_fill hl e0F 0 (by rw [cnt_e0]; exact Nat.le_refl _)
  refine .call (all_spec (by omega) (DD k) T (by omega)) fun r ⟨A, kr⟩ => .of ⟨allF (addL e0F xs), ⟨A.st, fun a ha => ⟨(A.lt a ha).1, Nat.le_trans kp.nx (A.lt a ha).2⟩⟩, ?_, fun x hx => ?_, allF_rises (fill_rises xs) (addL_in e0_in), kp.trans kr⟩
  ·rw [show (allF (addL e0F xs)).length = _ from flatTo_len _ 256]; omega
  ·obtain ⟨i, hi, h2⟩ := mem_allF.1 hx
   rcases addL_mem.1 h2 with ⟨h3, _⟩ | h3
   ·exact hok x h3
   ·cases h3
 have loop : ∀ (d i : Nat) (H : AHeap) (sl : Nat → Slc) (xs : List It), i + d = 100 → xs.length = i → Keeps h H → Tab h.next H h.next sl (addL e0F xs) → (∀ x ∈ xs, okI x) → Gx.Wp (iterK bot (d + 1) (law16_items_l0b k (DD k) j4) s (some ⟨h.next, 0, none⟩) (i : Int) H) fun z => ∃ its, AccW 6 itC 57 h.next z.2 z.1 its ∧ its.length ≤ 100 ∧ (∀ x ∈ its, okI x) ∧ its.Pairwise LessI ∧ Keeps h z.2 := fun d => by
  induction d with
  | zero =>
   intro i H sl xs hd hx kp T hok
   rw [iterK_s]; simp only [law16_items_l0b]
   refine Gx.Wp.jn fun j16 h16 => ?_
   by_cases c : i < l.length
   ·refine .ifp (by rw [R.len]; simp; omega) ?_
    rw [h16]
    exact .ifn (by simp; omega) (fin H sl xs T hok (by omega) kp)
   ·refine .ifn (by rw [R.len]; simp; omega) ?_
    rw [h16]
    exact .ifn (by decide) (fin H sl xs T hok (by omega) kp)
  | succ d ih =>
   intro i H sl xs hd hx kp T hok
   rw [iterK_s]; simp only [law16_items_l0b]
   refine Gx.Wp.jn fun j16 h16 => ?_
   by_cases c : i < l.length
   rotate_left
   ·refine .ifn (by rw [R.len]; simp; omega) ?_
    rw [h16]
    exact .ifn (by decide) (fin H sl xs T hok (by omega) kp)
   refine .ifp (by rw [R.len]; simp; omega) ?_
   rw [h16]
   refine .ifp (by simp; omega) ?_
   obtain ⟨x, hx1⟩ := isome (l := l) (i := i) c
   obtain ⟨h17, e17⟩ : ∃ h17, h17 = AHeap.resv H 2 := ⟨_, rfl⟩
   rw [← e17]
   have k17 : Keeps H h17 := ⟨by rw [e17]; show H.next ≤ H.next + 2; omega, fun b hb _ => by rw [e17]; rfl⟩
   have n17 : h17.next = H.next + 2 := by rw [e17]; rfl
   obtain ⟨q, b1, _, b3, _⟩ := (R.keeps (kp.trans k17)).ld tr2C_len (by decide) hx1
   refine .bnd b1 (.bnd (b3 0 .i64 x.1 rfl) ?_)
   obtain ⟨h21, e21⟩ : ∃ h21, h21 = AHeap.set h17 (H.next + 0) (.cells [.int .u8 (IntKind.wrap .u8 x.1)] 5 true 0) := ⟨_, rfl⟩
   rw [← e21]
   have g21 : h21.get (H.next + 0) = some (.cells [.int .u8 (IntKind.wrap .u8 x.1)] 5 true 0) := by rw [e21]; simp
   have k21 : Keeps H h21 := by rw [e21]; exact k17.set (by omega)
   have n21 : h21.next = H.next + 2 := by rw [e21]; exact n17
   obtain ⟨q2, d1, _, d3, _⟩ := (R.keeps (kp.trans k21)).ld tr2C_len (by decide) hx1
   rw [b1] at d1; cases d1
   refine .bnd (oneB g21) (.gp ⟨_, g21, fun HH hH => by dsimp only; rw [oneB hH]; rfl⟩ (.bnd b1 (.bnd (d3 1 .i64 x.2.1 rfl) (.gp (ssw1 (by rw [b3 1 .i64 x.2.1 rfl]; rfl)) ?_))))
   obtain ⟨h30, e30⟩ : ∃ h30, h30 = AHeap.set h21 (H.next + 1) (.cells [.int .u8 (IntKind.wrap .u8 x.2.1)] 5 true 0) := ⟨_, rfl⟩
   rw [← e30]
   have g30 : h30.get (H.next + 1) = some (.cells [.int .u8 (IntKind.wrap .u8 x.2.1)] 5 true 0) := by rw [e30]; simp
   have k30 : Keeps H h30 := by rw [e30]; exact k21.set (by omega)
   have n30 : h30.next = H.next + 2 := by rw [e30]; exact n21
   refine .bnd (oneB g30) (.gp ⟨_, g30, fun HH hH => by dsimp only; rw [oneB hH]; rfl⟩ (.bnd (rep_rfl _) (.bnd (rep_rfl _) (Wp.newE fun h36 e36 k36 n36 g36 => ?_))))
   have f3 : Int.tmod (i : Int) 3 = ((i % 3 : Nat) : Int) := by rw [Int.tmod_eq_emod_of_nonneg (by omega)]; omega
   have f5 : IntKind.wrap .i64 (1 + Int.tmod (i : Int) 5) = ((1 + i % 5 : Nat) : Int) := by
    rw [Int.tmod_eq_emod_of_nonneg (by omega), Gx.w64 _ (by omega)]; omega
   have f7 : Int.tmod (i : Int) 7 = ((i % 7 : Nat) : Int) := by rw [Int.tmod_eq_emod_of_nonneg (by omega)]; omega
   rw [f3, f5, f7] at g36
   have gx : h36.get h30.next = some (.cells (itC (i16 x i)) 57 true 0) := g36
   have kH : Keeps H h36 := k30.trans k36
   have TH := T.keeps kH
   refine .call (add_spec (by omega) (oneRow (i16 x i) gx (by omega)) (N := i) (by simp; omega) (by simp; omega) (fun a ha z => ?_) (by have := kp.nx; have := kH.nx; omega) TH (fill_rises xs) (by have := fill_max xs; rwa [hx] at this) (fun z hz => by rw [List.mem_singleton.1 hz]; exact i16_ok x i)) fun r7 ⟨q7, sl', T7, c7, o7⟩ => ?_
   ·cases ha
    have := (T.own z).2
    have : h30.next < H.next := this
    omega
   rw [q7]
   refine .ifn (by decide) ?_
   rw [Gx.w1 (by omega)]
   refine ih (i + 1) r7.2 sl' (xs ++ [i16 x i]) (by omega) (by simp [hx]) ((kp.trans kH).keepsS c7 fun y hy => (TH.own hy).1) ?_ (fun z hz => ?_)
   ·rw [addL_app]; exact T7
   ·rcases List.mem_append.1 hz with g | g
    ·exact hok z g
    ·rw [List.mem_singleton.1 g]; exact i16_ok x i
 exact loop 100 0 h1 _ [] (by omega) rfl k1 T1 (fun x hx => by cases hx)
end
def mpE (xs : List (Int × Nat)) : List (Value × Value × Nat) := xs.map fun x => (.int .i64 x.1, .bool true, x.2)
theorem mpE_find (a : Int) : ∀ (xs : List (Int × Nat)) (c : Nat), (a ∈ xs.map (·.1) → ∃ p, p < xs.length ∧ findE (.int .i64 a) (mpE xs) c = some (some (c + p, .bool true)) ∧ ∃ b, xs[p]? = some (a, b)) ∧ (a ∉ xs.map (·.1) → findE (.int .i64 a) (mpE xs) c = some none)
 | [], c => ⟨fun h => by simp at h, fun _ => rfl⟩
 | x :: xs, c => by
  have ih := mpE_find a xs (c + 1)
  by_cases e : a = x.1
  ·refine ⟨fun _ => ⟨0, by simp, ?_, x.2, by simp [e]⟩, fun h => by simp [e] at h⟩
   simp [mpE, findE, keyEq, e]
  ·have e1 : findE (.int .i64 a) (mpE (x :: xs)) c = findE (.int .i64 a) (mpE xs) (c + 1) := by
    have : keyEq (.int .i64 a) (.int .i64 x.1) = some false := by simp [keyEq, e]
    simp [mpE, findE, this]
   rw [e1]
   refine ⟨fun h => ?_, fun h => ih.2 (by simpa [e] using h)⟩
   obtain ⟨p, p1, p2, b, p3⟩ := ih.1 (by simpa [e] using h)
   exact ⟨p + 1, by simpa using p1, by rw [p2]; congr 3; omega, b, by simpa using p3⟩
theorem upd_mp {H : AHeap} {r : Nat} {xs : List (Int × Nat)} {cl : Nat} (g : H.get r = some (.map (mpE xs) cl)) (a : Int) : ∃ xs' cl', updE H r (.int .i64 a) (.bool true) = some (H.set r (.map (mpE xs') cl')) ∧ xs'.length ≤ xs.length + 1 := by
 unfold updE
 simp only [g]
 by_cases c : a ∈ xs.map (·.1)
 ·obtain ⟨p, p1, p2, b, p3⟩ := (mpE_find a xs 0).1 c
  rw [p2]
  refine ⟨xs, cl, ?_, Nat.le_succ _⟩
  simp only [Nat.zero_add]
  congr 3
  apply List.ext_getElem?
  intro j
  rw [List.getElem?_modify]
  by_cases e : p = j
  ·subst e
   simp [mpE, p3]
  ·simp [e]
 ·rw [(mpE_find a xs 0).2 c]
  exact ⟨xs ++ [(a, cl)], cl + 1, by simp [mpE], by simp⟩
theorem look_mp {H : AHeap} {r : Nat} {xs : List (Int × Nat)} {cl : Nat} (g : H.get r = some (.map (mpE xs) cl)) (a : Int) : ∃ b c, lookE decB (.bool false) H (some r) (.int .i64 a) = some (b, c) := by
 unfold lookE
 simp only [g]
 by_cases c : a ∈ xs.map (·.1)
 ·obtain ⟨p, p1, p2, b, p3⟩ := (mpE_find a xs 0).1 c
  rw [p2]
  exact ⟨_, _, rfl⟩
 ·rw [(mpE_find a xs 0).2 c]
  exact ⟨_, _, rfl⟩
end Gc
namespace Gc
open Go Gx Go.RowKit Go.Maps
section
variable {k base b0 tb tf : Nat} {h : AHeap} {sl : Nat → Slc} {F : Nat → List It} {s : Slc} {xs : List It}
end
end Gc
namespace Gc
open Go Gx Go.RowKit Go.Maps
structure LT (base : Nat) (h : AHeap) (rb : Nat) (s : Slc) (xs : List It) : Prop where
 blk : h.get rb = some (.cells [.slice s.a s.len s.cap] 77 true 0)
 lt : rb < h.next
 ge : base ≤ rb
 acc : AccW 6 itC 57 base h s xs
 ne : ∀ a, s.a = some a → a.block ≠ rb
section
variable {k base rb : Nat} {h h' : AHeap} {s : Slc} {xs ys : List It}
def LOwn (rb : Nat) (s : Slc) (y : Nat) : Prop := y = rb ∨ ofS s y
theorem LT.own (T : LT base h rb s xs) {y : Nat} (hy : LOwn rb s y) : base ≤ y ∧ y < h.next := by
 rcases hy with rfl | ⟨a, ha, rfl⟩
 ·exact ⟨T.ge, T.lt⟩
 ·exact ⟨(T.acc.lt a ha).2, (T.acc.lt a ha).1⟩
theorem LT.chg {S : Nat → Prop} (T : LT base h rb s xs) (c : Chg S h h') (hs : ∀ y, LOwn rb s y → ¬ S y) : LT base h' rb s xs :=
 ⟨(c.oth rb T.lt (hs rb (.inl rfl))).trans T.blk, Nat.lt_of_lt_of_le T.lt c.nx, T.ge, T.acc.chg c fun a ha => hs _ (.inr ⟨a, ha, rfl⟩), T.ne⟩
theorem LT.keeps (T : LT base h rb s xs) (c : Keeps h h') : LT base h' rb s xs := T.chg c fun _ _ f => f
theorem LT.ld (T : LT base h rb s xs) : ldL ⟨rb, 0 + 0, none⟩ h = some s := sldL_at T.blk rfl
theorem LT.row (T : LT base h rb s xs) : RowW 6 itC h s xs := T.acc.row itC_len
end
end Gc
namespace Gc
open Go Gx Go.RowKit Go.Maps
section
variable {k base rb : Nat} {h h' : AHeap} {s : Slc} {xs ys : List It}
end
end Gc
namespace Gc
open Go Gx Go.RowKit Go.Maps
section
variable {k base tb rb : Nat} {h h' : AHeap} {sl : Nat → Slc} {F : Nat → List It} {s t : Slc} {xs ys : List It}
end
end Gc
namespace Gc
open Go Gx Go.RowKit Go.Maps
section
variable {α : Type} {w : Nat} {enc : α → List Value} {e : TypeId} {base bytes : Nat} {H : AHeap} {s o : Slc} {xs os : List α}
end
section
variable {k base rb : Nat} {h h' : AHeap} {s : Slc} {xs : List It}
end
end Gc
namespace Gc
open Go Gx Go.RowKit Go.Maps
open Classical in
section
variable {k base rb : Nat} {h h' : AHeap} {s : Slc} {xs : List It}
end
end Gc
namespace Gc
open Go Gx Go.RowKit Go.Maps
section
variable {k base rb tb : Nat} {h h' : AHeap} {s t : Slc} {sl : Nat → Slc} {F : Nat → List It}
theorem sameT_spec (D : CallF) {xs ys : List ByteArray} (R : Row encS h s xs) (S : Row encS h t ys) (hl : xs.length + 2 ≤ k) (hb : xs.length ≤ 1000000000) : Gx.Wp (book_SameTexts k D s t h) fun z => z.1 = decide (xs = ys) ∧ z.2 = h := by
 simp only [book_SameTexts]
 by_cases hc : xs.length = ys.length
 rotate_left
 ·exact .ifp (by rw [R.1, S.1]; simp; omega) (.of ⟨by symm; exact decide_eq_false (fun e => hc (by rw [e])), rfl⟩)
 refine .ifn (by rw [R.1, S.1]; simp; omega) (Gx.Wp.jn fun j2 h2 => ?_)
 unfold book_SameTexts_l0
 obtain ⟨bot, eb⟩ := iterK_of (fun _ _ _ _ => none) (book_SameTexts_l0b k D j2) (show xs.length + 1 ≤ k by omega)
 rw [eb]
 have loop : ∀ (d i : Nat), i + d = xs.length → xs.take i = ys.take i → Gx.Wp (iterK bot (d + 1) (book_SameTexts_l0b k D j2) s t (i : Int) h) fun z => z.1 = decide (xs = ys) ∧ z.2 = h := fun d => by
  induction d with
  | zero =>
   intro i hd ht
   rw [iterK_s]; simp only [book_SameTexts_l0b]
   refine .ifn (by rw [R.1]; simp; omega) ?_
   rw [h2]
   rw [List.take_of_length_le (by omega), List.take_of_length_le (by omega)] at ht
   exact .of ⟨by symm; exact decide_eq_true ht, rfl⟩
  | succ d ih =>
   intro i hd ht
   rw [iterK_s]; simp only [book_SameTexts_l0b]
   obtain ⟨x, hx⟩ := isome (l := xs) (i := i) (by omega)
   obtain ⟨y, hy⟩ := isome (l := ys) (i := i) (by omega)
   obtain ⟨q, b1, b2⟩ := Row.ldS R hx
   obtain ⟨q', c1, c2⟩ := Row.ldS S hy
   refine .ifp (by rw [R.1]; simp; omega) (.bnd b1 (.bnd b2 (.bnd c1 (.bnd c2 ?_))))
   rw [beq_ba]
   by_cases e : x = y
   ·refine .ifn (by simp [e]) ?_
    rw [Gx.w1 (by omega)]
    refine ih (i + 1) (by omega) ?_
    rw [List.take_add_one, List.take_add_one, ht, hx, hy, e]
   ·refine .ifp (by simp [e]) (.of ⟨?_, rfl⟩)
    symm; refine decide_eq_false (fun e2 => e ?_)
    rw [e2, hy] at hx; exact (Option.some.inj hx).symm
 exact loop xs.length 0 (by omega) rfl
end
end Gc
namespace Gc
open Go Gx
theorem rep32_bl (i : Nat) : ∃ t, bl (rep32 i) = UInt8.ofNat i :: t := ⟨_, rfl⟩
theorem rep32_lt {i j : Nat} (h : i < j) (hj : j < 256) : ltB (rep32 i) (rep32 j) := by
 obtain ⟨a, ea⟩ := rep32_bl i
 obtain ⟨b, eb⟩ := rep32_bl j
 unfold ltB
 rw [ea, eb]
 refine List.cons_lt_cons_iff.2 (.inl ?_)
 show (UInt8.ofNat i).toNat < (UInt8.ofNat j).toNat
 simp [UInt8.toNat_ofNat']
 omega
theorem encR_small {sup : List ByteArray} {its : List It} (h1 : sup.Pairwise ltB) (h2 : ∀ s ∈ sup, s.size = 32) (h3 : sup.length ≤ 256) (h4 : its.Pairwise LessI) (h5 : ∀ x ∈ its, okI x) (h6 : its.length ≤ 100) : chkF sup its = 0 ∧ ¬ tooB sup its := by
 refine ⟨chk_zero.2 ⟨⟨h2, h5⟩, h1, h4⟩, ?_⟩
 rintro (q | q | q)
 ·omega
 ·omega
 ·have a := leb_len 1 sup.length (by omega)
  have b := leb_len 1 its.length (by omega)
  have c := supB_len h2
  have d := itsB_len h5
  simp only [textB, List.length_append, headB, List.length_cons, List.length_nil] at q
  omega
section
variable {k : Nat} {h : AHeap} {s o : Slc}
theorem again_spec (hk : 20000 ≤ k) (t : ByteArray) (h : AHeap) : Gx.Wp ((index_Decode k (DD k) t h).bind fun r32 =>
  newK r32.2 ((.cells [.slice none 0 0, .slice none 0 0] 25 true 0)) fun h33 =>
  (stL 2 (⟨r32.2.next, 0, none⟩ : Addr) ([.slice r32.1.1.1.a r32.1.1.1.len r32.1.1.1.cap, .slice r32.1.1.2.a r32.1.1.2.len r32.1.1.2.cap]) h33).bind fun h34 =>
  (if (r32.1.2 == 0) = true then
  (ldA 2 (⟨r32.2.next, 0, none⟩ : Addr) h34).bind fun l35 =>
  (decC [.l, .l] l35).bind fun x36 =>
  (index_Encode k (DD k) (x36.1, x36.2) h34).bind fun r37 =>
  (if (r37.1.2 == 0) = true then
  some ((r37.1.1 == t), r37.2)
  else
  some (false, r37.2))
  else
  some (true, h34))) fun z => z.1 = true := by
 refine .call (decode_spec hk t h) fun r ⟨d1, d2, k1⟩ => Wp.newE fun h33 e33 k33 n33 g33 => Wp.stL g33 rfl rfl rfl (by decide) fun h34 c34 n34 g34 => ?_
 have k34 : Keeps r.2 h34 := k33.keepsS c34 fun y hy => by subst hy; omega
 cases hd : decF (bl t) with
 | none =>
  have e := d2 hd
  exact .ifn (by rw [e]; decide) (.of rfl)
 | some f =>
  obtain ⟨e0, R1, R2, _, _⟩ := d1 f hd
  obtain ⟨i1, i2, i3⟩ := decF_inv hd
  have m1 : f.1.length ≤ 4096 := Nat.le_of_not_lt fun q => i3 (.inl q)
  have m2 : f.2.length ≤ 4096 := Nat.le_of_not_lt fun q => i3 (.inr (.inl q))
  refine .ifp (by simp [e0]) (.bnd (sldA_at g34 rfl) (.bnd (show decC [.l, .l] [.slice r.1.1.1.a r.1.1.1.len r.1.1.1.cap, .slice r.1.1.2.a r.1.1.2.len r.1.1.2.cap] = some (r.1.1.1, r.1.1.2) from rfl) (.call (encode_spec (by omega) (R1.keeps k34) (R2.keeps k34) (by omega) (by omega)) fun r37 ⟨q37, _⟩ => ?_)))
  rw [q37, encR_ok i2 i3]
  refine .ifp rfl (.of ?_)
  show (bA (textB f.1 f.2) == t) = true
  rw [← i1, bA_bl]
  simp [beq_ba]
theorem back_true (hk : 20000 ≤ k) {cl co : Slc} {l : List Tr2} {over : List Int} (R : Rep h (.list T2D) l [.slice cl.a cl.len cl.cap]) (RO : Row encI h co over) (t : ByteArray) : Tru (law16_IndexBack k (DD k) cl co t h) true := by
 refine Tru.wp ?_
 simp only [law16_IndexBack]
 refine Gx.Wp.jn fun j6 h6 => .call (works16 (by omega) h) fun r91 ⟨q91, k91⟩ => .ifn (by rw [q91]; decide) ?_
 by_cases c0 : 10000 < t.size
 ·rw [decide_eq_true (by omega), h6]
  exact .ifp rfl (.call (works16 (by omega) r91.2) fun r ⟨q, _⟩ => .of q)
 rw [decide_eq_false (by omega), h6]
 refine .ifn (by decide) (Wp.newE fun h8 e8 k8 n8 g8 => ?_)
 have k08 : Keeps h h8 := k91.trans k8
 refine .call (items_spec (by omega) ((rep_tr2 R).keeps k08)) fun r9 ⟨its, A9, il, iok, irs, k9⟩ => ?_
 have n9 := k9.nx
 have g9 := k9.got (by omega) g8
 refine Wp.st g9 (by simp) rfl fun h10 c10 n10 g10 => Wp.newE fun h11 e11 k11 n11 g11 => Gx.Wp.jn fun j16 h16 => ?_
 have fb := r91.2.next
 have Ri : RowW 6 itC h10 r9.1 its := (A9.row itC_len).chg c10 fun a ha q => by have := (A9.lt a ha).2; omega
 have Ri11 := Ri.keeps k11
 have gf11 : h11.get r91.2.next = some (.cells [.slice none 0 0, .slice r9.1.a r9.1.len r9.1.cap] 25 true 0) := k11.got (by omega) g10
 have k011 : Keeps h h11 := ((k91.trans (k8.trans k9)).keepsS c10 fun y hy => by subst hy; exact k91.nx).trans k11
 have fin : ∀ (H : AHeap) (xs : List (Int × Nat)) (cl : Nat), H.get h10.next = some (.map (mpE xs) cl) → Chg (· = h10.next) h11 H → Gx.Wp (j16 t (some ⟨r91.2.next, 0, none⟩) (some h10.next) H) fun z => z.1 = true := fun H xs cl gm cH => by
  rw [h16]
  have nH := cH.nx
  refine Gx.Wp.jn fun j20 h20 => ?_
  have last : ∀ (H2 : AHeap) (o : Slc) (sup : List ByteArray), Acc encS 9 H.next H2 o sup → sup.Pairwise ltB → (∀ s ∈ sup, s.size = 32) → sup.length ≤ 256 → H2.get r91.2.next = some (.cells [.slice o.a o.len o.cap, .slice r9.1.a r9.1.len r9.1.cap] 25 true 0) → Chg (· = r91.2.next) H H2 → Gx.Wp (j20 t (some ⟨r91.2.next, 0, none⟩) H2) fun z => z.1 = true := fun H2 o sup A hp hs hl gf c2 => by
   rw [h20]
   have n2 := c2.nx
   have Ri2 : RowW 6 itC H2 r9.1 its := (Ri11.chg cH fun a ha q => by have := (A9.lt a ha).1; omega).chg c2 fun a ha q => by have := (A9.lt a ha).2; omega
   obtain ⟨z0, z1⟩ := encR_small hp hs hl irs iok il
   refine .bnd rfl (.bnd (sldA_at gf rfl) (.bnd (show decC [.l, .l] [.slice o.a o.len o.cap, .slice r9.1.a r9.1.len r9.1.cap] = some (o, r9.1) from rfl) (.call (encode_spec (by omega) A.row Ri2 (by omega) (by omega)) fun r24 ⟨q24, k24⟩ => ?_)))
   rw [encR_ok z0 z1] at q24
   rw [q24]
   refine .call (decode_spec hk (bA (textB sup its)) r24.2) fun r25 ⟨d1, _, k25⟩ => ?_
   obtain ⟨e0, R1, R2, _, _⟩ := d1 (sup, its) (decF_text z0 z1)
   have k2 : Keeps H2 r25.2 := k24.trans k25
   have gf25 := k2.got (by omega) gf
   have nk2 := k2.nx
   refine Wp.newE fun h26 e26 k26 n26 g26 => Wp.stL g26 rfl rfl rfl (by decide) fun h27 c27 n27 g27 => Gx.Wp.jn fun j31 h31 => ?_
   have k27 : Keeps r25.2 h27 := k26.keepsS c27 fun y hy => by subst hy; omega
   have gf27 := k27.got (by omega) gf25
   have ok31 : ∀ H3, Gx.Wp (j31 t false H3) fun z => z.1 = true := fun H3 => by
    rw [h31]
    exact .ifn (by decide) (again_spec hk t H3)
   refine .ifn (by simp) (.ifn (by simp [e0]) (.bnd rfl (.bnd (sldL_at (o := 0 + 1) gf27 rfl) (.bnd (sldL_at (o := 1) g27 rfl) (.call (same_spec (DD k) (Ri2.keeps (k2.trans k27)) (R2.keeps k27) (by omega) (by omega)) fun r41 ⟨q41, e41⟩ => ?_)))))
   rw [q41, e41]
   refine .ifn (by simp) (.bnd rfl (.bnd (sldL_at (o := 0 + 0) gf27 rfl) (.bnd (sldL_at (o := 0) g27 rfl) (.call (sameT_spec (DD k) (A.row.keeps (k2.trans k27)) (R1.keeps k27) (by omega) (by omega)) fun r45 ⟨q45, e45⟩ => ?_))))
   rw [q45]
   have : (!decide (sup = sup)) = false := by simp
   rw [this]
   exact ok31 r45.2
  unfold law16_IndexBack_l0
  obtain ⟨bot, eb⟩ := iterK_of (fun _ _ _ _ _ => none) (law16_IndexBack_l0b k (DD k) j20) (show 256 + 1 ≤ k by omega)
  rw [eb]
  have loop : ∀ (d i : Nat) (H2 : AHeap) (o : Slc) (sup : List ByteArray), i + d = 256 → Acc encS 9 H.next H2 o sup → sup.Pairwise ltB → (∀ s ∈ sup, ∃ j, j < i ∧ s = rep32 j) → sup.length ≤ i → H2.get r91.2.next = some (.cells [.slice o.a o.len o.cap, .slice r9.1.a r9.1.len r9.1.cap] 25 true 0) → Chg (· = r91.2.next) H H2 → Gx.Wp (iterK bot (d + 1) (law16_IndexBack_l0b k (DD k) j20) t (some ⟨r91.2.next, 0, none⟩) (some h10.next) (i : Int) H2) fun z => z.1 = true := fun d => by
   induction d with
   | zero =>
    intro i H2 o sup hd A hp hs hl gf c2
    rw [iterK_s]; simp only [law16_IndexBack_l0b]
    refine .ifn (by simp; omega) (last H2 o sup A hp (fun s hs' => ?_) (by omega) gf c2)
    obtain ⟨j, _, rfl⟩ := hs s hs'
    exact rep_size j
   | succ d ih =>
    intro i H2 o sup hd A hp hs hl gf c2
    rw [iterK_s]; simp only [law16_IndexBack_l0b]
    have n2 := c2.nx
    have gm2 := c2.got (by omega) (by omega) gm
    obtain ⟨b, cc, lk⟩ := look_mp gm2 (i : Int)
    refine .ifp (by simp; omega) (Gx.Wp.jn fun j57 h57 => .bnd lk ?_)
    cases b with
    | false =>
     refine .ifn (by simp) ?_
     rw [h57]
     dsimp only
     rw [Gx.w1 (by omega)]
     exact ih (i + 1) H2 o sup (by omega) A hp (fun s hs' => by obtain ⟨j, j1, j2⟩ := hs s hs'; exact ⟨j, by omega, j2⟩) (by omega) gf c2
    | true =>
     refine .ifp rfl (Wp.newE fun h59 e59 k59 n59 g59 => .bnd (oneB g59) (.bnd (rep_rfl _) (Wp.newE fun h62 e62 k62 n62 g62 => ?_)))
     have ew : IntKind.wrap .u8 (i : Int) = (i : Int) := Gx.w8 _ (by omega)
     rw [ew, Int.toNat_natCast] at e62
     have l2 := sldL_at (sp := none) (o := 0 + 0) gf rfl
     have l59 := sldL_at (sp := none) (o := 0 + 0) (k59.got (by omega) gf) rfl
     have gf62 : h62.get r91.2.next = some (.cells [.slice o.a o.len o.cap, .slice r9.1.a r9.1.len r9.1.cap] 25 true 0) := k62.got (by omega) (k59.got (by omega) gf)
     have A59 := A.keeps k59
     obtain ⟨s', h9, a1, a2, A9', c9, d9⟩ := Acc.pushK A59 (fun _ => rfl) (rep32 i) (bytes := 16) e62 (by omega) (by decide) (by omega)
     have nk := c9.nx
     have gf59 : h59.get r91.2.next = some (.cells [.slice o.a o.len o.cap, .slice r9.1.a r9.1.len r9.1.cap] 25 true 0) := k59.got (by omega) gf
     have gf9 : h9.get r91.2.next = some (.cells [.slice o.a o.len o.cap, .slice r9.1.a r9.1.len r9.1.cap] 25 true 0) := c9.got (by omega) (fun ⟨a, ha, e⟩ => by have := (A.lt a ha).2; omega) gf59
     refine .bnd rfl (.bnd (sldL_at (o := 0 + 0) gf62 rfl) (.gp (fun HH hH => ?_) (.bnd a1 (.bnd a2 (.bnd rfl (Wp.st gf9 (by simp) rfl fun h70 c70 n70 g70 => ?_))))))
     ·simp only [List.mem_cons, List.not_mem_nil, or_false] at hH
      dsimp only
      rcases hH with e | e | e
      ·rw [e, l59]; rfl
      ·rw [e, l59]; rfl
      ·rw [e, l2]; rfl
     rw [h57]
     dsimp only
     rw [Gx.w1 (by omega)]
     refine ih (i + 1) h70 s' (sup ++ [rep32 i]) (by omega) (A9'.chg c70 fun a ha q => by have := (A9'.lt a ha).2; have q' : a.block = r91.2.next := q; omega) ?_ (fun s hs' => ?_) (by simp; omega) g70 ?_
     ·rw [List.pairwise_append]
      refine ⟨hp, List.pairwise_singleton _ _, fun a ha b hb => ?_⟩
      obtain ⟨j, j1, rfl⟩ := hs a ha
      rw [List.mem_singleton.1 hb]
      exact rep32_lt j1 (by omega)
     ·rcases List.mem_append.1 hs' with g | g
      ·obtain ⟨j, j1, j2⟩ := hs s g; exact ⟨j, by omega, j2⟩
      ·exact ⟨i, by omega, List.mem_singleton.1 g⟩
     ·refine Chg.beh (T := (· = r91.2.next)) (Chg.beh (T := ofS o) (Chg.trans c2 (Chg.keeps k59)) c9 fun y hy ⟨a, ha, e⟩ => by have := (A59.lt a ha).2; omega) c70 fun y _ e => e
  have gfH := cH.got (by omega) (by omega) gf11
  exact loop 256 0 H ⟨none, 0, 0⟩ [] (by omega) (Acc.nil _ _ _ _) List.Pairwise.nil (fun s hs => by cases hs) (Nat.le_refl _) gfH (.refl _ _)
 unfold law16_IndexBack_l1
 obtain ⟨bot, eb⟩ := iterK_of (fun _ _ _ _ _ _ => none) (law16_IndexBack_l1b k (DD k) j16) (show 30 + 1 ≤ k by omega)
 rw [eb]
 have loop : ∀ (d i : Nat) (H : AHeap) (xs : List (Int × Nat)) (cl : Nat), i + d = 30 → H.get h10.next = some (.map (mpE xs) cl) → Chg (· = h10.next) h11 H → Gx.Wp (iterK bot (d + 1) (law16_IndexBack_l1b k (DD k) j16) co t (some ⟨r91.2.next, 0, none⟩) (some h10.next) (i : Int) H) fun z => z.1 = true := fun d => by
  induction d with
  | zero =>
   intro i H xs cl hd gm cH
   rw [iterK_s]; simp only [law16_IndexBack_l1b]
   refine Gx.Wp.jn fun j85 h85 => ?_
   by_cases c : i < over.length
   ·refine .ifp (by rw [show co.len = over.length from RO.1]; simp; omega) ?_
    rw [h85]
    exact .ifn (by simp; omega) (fin H xs cl gm cH)
   ·refine .ifn (by rw [show co.len = over.length from RO.1]; simp; omega) ?_
    rw [h85]
    exact .ifn (by decide) (fin H xs cl gm cH)
  | succ d ih =>
   intro i H xs cl hd gm cH
   rw [iterK_s]; simp only [law16_IndexBack_l1b]
   refine Gx.Wp.jn fun j85 h85 => ?_
   by_cases c : i < over.length
   ·refine .ifp (by rw [show co.len = over.length from RO.1]; simp; omega) ?_
    rw [h85]
    obtain ⟨x, hx⟩ := isome (l := over) (i := i) c
    have kk : Keeps h H := k011.keepsS cH fun y hy => by subst hy; have := k91.nx; omega
    obtain ⟨q, b1, b2⟩ := (RO.keeps kk).ldI hx
    obtain ⟨xs', cl', u1, _⟩ := upd_mp gm (amg x 256)
    refine .ifp (by simp; omega) (.bnd b1 (.bnd b2 (.bnd (among_spec k (DD k) x (by decide) (by decide) H) (.bnd rfl (.bnd u1 ?_)))))
    rw [Gx.w1 (by omega)]
    exact ih (i + 1) _ xs' cl' (by omega) (sset_get _ _ _) (Chg.trans cH (Chg.set (.inr rfl)))
   ·refine .ifn (by rw [show co.len = over.length from RO.1]; simp; omega) ?_
    rw [h85]
    exact .ifn (by decide) (fin H xs cl gm cH)
 exact loop 30 0 h11 [] 0 (by omega) g11 (.refl _ _)
end
end Gc
namespace Gc
open Go Gx
theorem back_rep {k : Nat} (hk : 20000 ≤ k) {h : AHeap} {cl co : Slc} {l : List (DT.V T2D)} {over : List Int} (R : Rep h (.list T2D) l [.slice cl.a cl.len cl.cap]) (RO : Row encI h co over) (_B : ∀ z, co.a = some z → z.block < h.next) (t : ByteArray) : Tru (law16_IndexBack k (DD k) cl co t h) true := back_true hk R RO t
end Gc
