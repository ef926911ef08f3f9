import Derived.Sort.Walk0
import Derived.Test.YtgnljbdobbahkaaFn1
namespace Gc
open Go Gx
theorem less_eq (a b : ByteArray) : Op.bytesLess a.toList b.toList = decide (bl a < bl b) := by
 rw [Go.Proofs.bytesLess_eq, ByteArray.toList_eq, ByteArray.toList_eq]; rfl
theorem beq_ba (a b : ByteArray) : (a == b) = decide (a = b) := by
 have e : (a == b) = (a.data == b.data) := rfl
 rw [e]
 by_cases h : a = b
 ·subst h; simp
 ·have : ¬ a.data = b.data := fun e => h (by cases a; cases b; simp at e; rw [e])
  simp [h, this]
abbrev It := ByteArray × ByteArray × Int × Int × Int × Int
def itC (x : It) : List Value := [.string x.1, .string x.2.1, .int .i64 x.2.2.1, .int .i64 x.2.2.2.1, .int .i64 x.2.2.2.2.1, .int .i64 x.2.2.2.2.2]
theorem itC_len (x : It) : (itC x).length = 6 := rfl
theorem itC_one (x : It) : allOne (itC x) = true := rfl
def cmpB (a b : ByteArray) : Int := if bl a < bl b then -1 else if a = b then 0 else 1
def cmpI (a b : Int) : Int := if a < b then -1 else if a = b then 0 else 1
def orL : List Int → Int
 | [] => 0
 | c :: l => if c ≠ 0 then c else orL l
def ordL (x y : It) : List Int := [cmpB x.1 y.1, cmpB x.2.1 y.2.1, cmpI x.2.2.2.1 y.2.2.2.1, cmpI x.2.2.2.2.1 y.2.2.2.2.1, cmpI x.2.2.2.2.2 y.2.2.2.2.2, cmpI x.2.2.1 y.2.2.1]
def ord (x y : It) : Int := orL (ordL x y)
def lessI (x y : It) : Bool := decide (ord x y < 0)
section
variable (k : Nat) (D : CallF)
theorem cmpS_spec (a b : ByteArray) (h : AHeap) : cmp_Compare_string k D a b h = some (cmpB a b, h) := by
 simp only [cmp_Compare_string, cmp_isNaN_string, Option.bind_some, beq_ba, less_eq, cmpB]
 by_cases c : bl a < bl b
 ·simp [c]
 ·by_cases e : a = b
  ·simp [e, List.lt_irrefl]
  ·simp [c, e]
theorem cmpN_spec (a b : Int) (h : AHeap) : cmp_Compare_int k D a b h = some (cmpI a b, h) := by
 simp only [cmp_Compare_int, cmp_isNaN_int, Option.bind_some, cmpI]
 by_cases c : a < b
 ·simp [c]
 ·by_cases e : a = b
  ·simp [e]
  ·have : b < a := by omega
   simp [c, e, this]
theorem or_spec {k : Nat} (hk : 100 ≤ k) {h : AHeap} {s : Slc} {xs : List Int} (R : Row encI h s xs) (hl : xs.length < 90) : cmp_Or_int k D s h = some (orL xs, h) := by
 simp only [cmp_Or_int]
 refine jn ?_
 unfold cmp_Or_int_l0
 generalize hj : (fun (zero1 : Int) (h2 : AHeap) => some (zero1, h2)) = j
 obtain ⟨bot, eb⟩ := iterK_of (fun _ _ _ _ _ => none) (cmp_Or_int_l0b k D j) (show xs.length + 1 ≤ k by omega)
 rw [eb]
 have loop : ∀ (d i : Nat), i + d = xs.length → iterK bot (d + 1) (cmp_Or_int_l0b k D j) 0 s (s.len : Int) (i : Int) h = some (orL (xs.drop i), h) := fun d => by
  induction d with
  | zero =>
   intro i hd
   obtain rfl : i = xs.length := by omega
   rw [iterK_s, List.drop_length]; simp only [cmp_Or_int_l0b]
   subst hj
   exact ifn (by rw [R.1]; simp) rfl
  | succ d ih =>
   intro i hd
   rw [iterK_s]; simp only [cmp_Or_int_l0b]
   obtain ⟨x, hx⟩ := isome (l := xs) (i := i) (by omega)
   obtain ⟨p, b1, b2⟩ := R.ldI hx
   refine ifp (by rw [R.1]; simp; omega) (bnd b1 (bnd b2 ?_))
   rw [dropc hx]
   by_cases c : x = 0
   ·refine ifn (by simp [c]) ?_
    rw [Gx.w1 (by omega), ih (i + 1) (by omega)]
    simp [orL, c]
   ·exact ifp (by simp [c]) (by simp [orL, c])
 exact loop xs.length 0 (by omega)
theorem ssw {hs : List AHeap} {H : AHeap} {F : AHeap → Option Value} {v : Value} (hh : ∀ x ∈ hs, x = H) (h : F H = some v) : SameW hs F v := fun x hx => by rw [hh x hx]; exact h
theorem order_spec {k : Nat} (hk : 100 ≤ k) (x y : It) (h : AHeap) : Gx.Wp (lookup_order k D x y h) fun z => z.1 = ord x y ∧ Keeps h z.2 := by
 simp only [lookup_order]
 refine Wp.newE fun H1 e1 k1 n1 g1 => Wp.newE fun H2 e2 k2 n2 g2 => ?_
 have gx : H2.get h.next = some (.cells (itC x) 57 true 0) := k2.got (by omega) g1
 have gy : H2.get H1.next = some (.cells (itC y) 57 true 0) := g2
 have lS : ∀ {b o : Nat} {c : List Value} {t : ByteArray}, H2.get b = some (.cells c 57 true 0) → c[o]? = some (.string t) → ldS ⟨b, o, none⟩ H2 = some t := fun hb hc => by simp [ldS, AHeap.rd1, hb, hc, decS]
 have lI : ∀ {b o : Nat} {c : List Value} {t : Int}, H2.get b = some (.cells c 57 true 0) → c[o]? = some (.int .i64 t) → ldI .i64 ⟨b, o, none⟩ H2 = some t := fun hb hc => sldI_at hb hc
 have x1 := lS (o := 0) gx rfl; have x2 := lS (o := 1) gx rfl; have x3 := lI (o := 3) gx rfl; have x4 := lI (o := 4) gx rfl; have x5 := lI (o := 5) gx rfl; have x6 := lI (o := 2) gx rfl
 have y1 := lS (o := 0) gy rfl; have y2 := lS (o := 1) gy rfl; have y3 := lI (o := 3) gy rfl; have y4 := lI (o := 4) gy rfl; have y5 := lI (o := 5) gy rfl; have y6 := lI (o := 2) gy rfl
 refine .bnd x1 (.bnd y1 (.bnd (cmpS_spec k D _ _ _) ?_))
 refine .bnd x2 (.gp (ssw (H := H2) (by simp) (by rw [x2]; rfl)) (.bnd y2 (.gp (ssw (H := H2) (by simp) (by rw [y2]; rfl)) (.bnd (cmpS_spec k D _ _ _) ?_))))
 refine .bnd x3 (.gp (ssw (H := H2) (by simp) (by rw [x3]; rfl)) (.bnd y3 (.gp (ssw (H := H2) (by simp) (by rw [y3]; rfl)) (.bnd (cmpN_spec k D _ _ _) ?_))))
 refine .bnd x4 (.gp (ssw (H := H2) (by simp) (by rw [x4]; rfl)) (.bnd y4 (.gp (ssw (H := H2) (by simp) (by rw [y4]; rfl)) (.bnd (cmpN_spec k D _ _ _) ?_))))
 refine .bnd x5 (.gp (ssw (H := H2) (by simp) (by rw [x5]; rfl)) (.bnd y5 (.gp (ssw (H := H2) (by simp) (by rw [y5]; rfl)) (.bnd (cmpN_spec k D _ _ _) ?_))))
 refine .bnd x6 (.gp (ssw (H := H2) (by simp) (by rw [x6]; rfl)) (.bnd y6 (.gp (ssw (H := H2) (by simp) (by rw [y6]; rfl)) (.bnd (cmpN_spec k D _ _ _) ?_))))
 refine Wp.newE fun H3 e3 k3 n3 g3 => ?_
 have R : Row encI H3 (⟨some ⟨H2.next, 0, some 0⟩, 6, 6⟩ : Slc) (ordL x y) := Row.of_block (xs := ordL x y) (o := 0) g3 (by rw [n3]; exact Nat.lt_succ_self H2.next) fun i z hz => by
  match i with
  | 0 => cases hz; rfl
  | 1 => cases hz; rfl
  | 2 => cases hz; rfl
  | 3 => cases hz; rfl
  | 4 => cases hz; rfl
  | 5 => cases hz; rfl
  | i + 6 => simp [ordL] at hz
 exact .bnd (or_spec D hk R (by simp [ordL])) (.of ⟨rfl, (k1.trans k2).trans k3⟩)
theorem decI6 (x : It) : decC [.s, .s, .i .i64, .i .i64, .i .i64, .i .i64] (itC x) = some x := rfl
theorem less_spec {k : Nat} (hk : 100 ≤ k) (x y : It) (h : AHeap) : Gx.Wp (lookup_Less k D x y h) fun z => z.1 = lessI x y ∧ Keeps h z.2 := by
 simp only [lookup_Less]
 refine Wp.newE fun H1 e1 k1 n1 g1 => Wp.newE fun H2 e2 k2 n2 g2 => ?_
 have gx : H2.get h.next = some (.cells (itC x) 57 true 0) := k2.got (by omega) g1
 refine .bnd (sldA_at gx rfl) (.bnd (decI6 x) (.bnd (sldA_at g2 rfl) (.bnd (decI6 y) (.call (order_spec D hk x y H2) fun r ⟨q1, q2⟩ => .of ⟨?_, (k1.trans k2).trans q2⟩))))
 show decide (r.1 < 0) = _
 rw [q1]; rfl
end
end Gc
namespace Gc
open Go Gx
def okI (x : It) : Prop := x.1.size = 32 ∧ x.2.1.size = 32 ∧ (x.2.2.1 = 1 ∨ x.2.2.1 = 2) ∧ (0 ≤ x.2.2.2.1 ∧ x.2.2.2.1 ≤ 65536) ∧ (1 ≤ x.2.2.2.2.1 ∧ x.2.2.2.2.1 ≤ 65536) ∧ (0 ≤ x.2.2.2.2.2 ∧ x.2.2.2.2.2 ≤ 65536)
instance (x : It) : Decidable (okI x) := by unfold okI; exact inferInstance
def chkI (x : It) : Int := if okI x then 0 else 1
section
variable (k : Nat) (D : CallF)
theorem within_spec (n l : Int) (h : AHeap) : lookup_within k D n l h = some (decide (l ≤ n ∧ n ≤ 65536), h) := by
 simp only [lookup_within]
 by_cases c : l ≤ n
 ·simp [c]
 ·simp [c]
theorem check_spec (x : It) (h : AHeap) : Gx.Wp (lookup_Check k D x h) fun z => z.1 = chkI x ∧ Keeps h z.2 := by
 simp only [lookup_Check]
 refine Wp.newE fun H1 e1 k1 n1 g1 => Wp.jn fun j5 h5 => ?_
 have gx : H1.get h.next = some (.cells (itC x) 57 true 0) := g1
 have lS : ∀ {o : Nat} {t : ByteArray}, (itC x)[o]? = some (.string t) → ldS ⟨h.next, o, none⟩ H1 = some t := fun hc => by simp [ldS, AHeap.rd1, gx, hc, decS]
 have lI : ∀ {o : Nat} {t : Int}, (itC x)[o]? = some (.int .i64 t) → ldI .i64 ⟨h.next, o, none⟩ H1 = some t := fun hc => sldI_at gx hc
 have J : ∀ kd : Bool, (kd = true ↔ (x.2.2.1 = 1 ∨ x.2.2.1 = 2)) → Gx.Wp (j5 (some ⟨h.next, 0, none⟩) kd H1) fun z => z.1 = chkI x ∧ Keeps h z.2 := by
  intro kd hkd
  rw [h5]
  refine Wp.jn fun j8 h8 => ?_
  have j8t : ¬ okI x → Gx.Wp (j8 true H1) fun z => z.1 = chkI x ∧ Keeps h z.2 := fun hn => by rw [h8]; exact .of ⟨by simp [chkI, hn], k1⟩
  have j8f : okI x → Gx.Wp (j8 false H1) fun z => z.1 = chkI x ∧ Keeps h z.2 := fun hn => by rw [h8]; exact .of ⟨by simp [chkI, hn], k1⟩
  refine .bnd rfl (.bnd (lS (o := 0) rfl) (.bnd rfl ?_))
  by_cases c1 : x.1.size = 32
  rotate_left
  ·exact .ifp (by simp; omega) (j8t fun q => c1 q.1)
  refine .ifn (by simp [c1]) (.bnd rfl (.bnd (lS (o := 1) rfl) (.bnd rfl ?_)))
  by_cases c2 : x.2.1.size = 32
  rotate_left
  ·exact .ifp (by simp; omega) (j8t fun q => c2 q.2.1)
  refine .ifn (by simp [c2]) ?_
  by_cases c3 : kd = true
  rotate_left
  ·exact .ifp (by simpa using c3) (j8t fun q => c3 (hkd.2 q.2.2.1))
  refine .ifn (by simp [c3]) (.bnd rfl (.bnd (lI (o := 3) rfl) (.bnd (within_spec k D _ _ _) ?_)))
  by_cases c4 : 0 ≤ x.2.2.2.1 ∧ x.2.2.2.1 ≤ 65536
  rotate_left
  ·exact .ifp (by simp only [c4, decide_false, Bool.not_false]) (j8t fun q => c4 q.2.2.2.1)
  refine .ifn (by simp [c4]) (.bnd rfl (.bnd (lI (o := 4) rfl) (.bnd (within_spec k D _ _ _) ?_)))
  by_cases c5 : 1 ≤ x.2.2.2.2.1 ∧ x.2.2.2.2.1 ≤ 65536
  rotate_left
  ·exact .ifp (by simp only [c5, decide_false, Bool.not_false]) (j8t fun q => c5 q.2.2.2.2.1)
  refine .ifn (by simp [c5]) (.bnd rfl (.bnd (lI (o := 5) rfl) (.bnd (within_spec k D _ _ _) ?_)))
  by_cases c6 : 0 ≤ x.2.2.2.2.2 ∧ x.2.2.2.2.2 ≤ 65536
  ·simp only [c6, and_self, decide_true, Bool.not_true]
   exact j8f ⟨c1, c2, hkd.1 c3, c4, c5, c6⟩
  ·simp only [c6, decide_false, Bool.not_false]
   exact j8t fun q => c6 q.2.2.2.2.2
 refine .bnd (lI (o := 2) rfl) ?_
 by_cases c : x.2.2.1 = 1
 ·exact .ifp (by simpa using c) (J true (by simp [c]))
 ·exact .ifn (by simpa using c) (.bnd (lI (o := 2) rfl) (J _ (by simp [c])))
def rlessI (x y : It) : Bool :=
 if x.1 ≠ y.1 then decide (bl x.1 < bl y.1) else if x.2.1 ≠ y.2.1 then decide (bl x.2.1 < bl y.2.1) else
 if x.2.2.2.1 ≠ y.2.2.2.1 then decide (x.2.2.2.1 < y.2.2.2.1) else if x.2.2.2.2.1 ≠ y.2.2.2.2.1 then decide (x.2.2.2.2.1 < y.2.2.2.2.1) else
 if x.2.2.2.2.2 ≠ y.2.2.2.2.2 then decide (x.2.2.2.2.2 < y.2.2.2.2.2) else decide (x.2.2.1 < y.2.2.1)
theorem cmpB_zero {a b : ByteArray} : cmpB a b = 0 ↔ a = b := by
 unfold cmpB
 by_cases c : bl a < bl b
 ·simp only [c, if_true]
  constructor
  ·intro h; omega
  ·rintro rfl; exact absurd c (List.lt_irrefl _)
 ·by_cases e : a = b <;> simp [c, e]
theorem cmpB_neg {a b : ByteArray} : cmpB a b < 0 ↔ bl a < bl b := by
 unfold cmpB
 by_cases c : bl a < bl b
 ·simp [c]
 ·by_cases e : a = b
  ·subst e; simp [List.lt_irrefl]
  ·simp [c, e]
theorem cmpI_zero {a b : Int} : cmpI a b = 0 ↔ a = b := by
 unfold cmpI
 by_cases c : a < b
 ·simp [c]; omega
 ·by_cases e : a = b <;> simp [c, e]
theorem cmpI_neg {a b : Int} : cmpI a b < 0 ↔ a < b := by
 unfold cmpI
 by_cases c : a < b
 ·simp [c]
 ·by_cases e : a = b <;> simp [c, e]
theorem less_same (x y : It) : lessI x y = rlessI x y := by
 unfold lessI rlessI ord ordL
 simp only [orL, ne_eq, cmpB_zero, cmpI_zero]
 by_cases c1 : x.1 = y.1
 rotate_left
 ·simp [c1, cmpB_neg]
 by_cases c2 : x.2.1 = y.2.1
 rotate_left
 ·simp [c1, c2, cmpB_neg]
 by_cases c3 : x.2.2.2.1 = y.2.2.2.1
 rotate_left
 ·simp [c1, c2, c3, cmpI_neg]
 by_cases c4 : x.2.2.2.2.1 = y.2.2.2.2.1
 rotate_left
 ·simp [c1, c2, c3, c4, cmpI_neg]
 by_cases c5 : x.2.2.2.2.2 = y.2.2.2.2.2
 rotate_left
 ·simp [c1, c2, c3, c4, c5, cmpI_neg]
 by_cases c6 : x.2.2.1 = y.2.2.1
 rotate_left
 ·simp [c1, c2, c3, c4, c5, c6, cmpI_neg]
 ·simp [c1, c2, c3, c4, c5, c6]
end
end Gc
namespace Gc
open Go Gx
noncomputable def DD (k : Nat) : CallF := mkC noC [e_lookup_order k noC, e_lookup_Table_Places_1 k noC, e_lookup_Table_Drop_1 k noC]
theorem DD_sound (k : Nat) : CSound Go.Proofs.Try.prog 0 (DD k) :=
 mkC_sound noC_sound (EntsOk.more (ok_lookup_order noC_sound k) (EntsOk.more (ok_lookup_Table_Places_1 noC_sound k) (EntsOk.more (ok_lookup_Table_Drop_1 noC_sound k) EntsOk.none)))
theorem dd_order {R : Type} {Q : R → Prop} {k : Nat} (hk : 100 ≤ k) {x y : It} {h : AHeap} {κ : Value → AHeap → Option R} {C : CallF} (hC : C = DD k) (kt : ∀ h', Keeps h h' → Gx.Wp (κ (.int .i64 (ord x y)) h') Q) :
  Gx.Wp (callD C (.func (.func 78) ⟨[]⟩ ⟨[]⟩) [.agg ⟨itC x⟩, .agg ⟨itC y⟩] h κ) Q := by
 subst hC
 show Gx.Wp ((lookup_order k noC x y h).bind fun r => κ (.int .i64 r.1) r.2) Q
 refine .call (order_spec noC hk x y h) fun r ⟨q1, q2⟩ => ?_
 rw [q1]; exact kt _ q2
theorem dd_places {R : Type} {Q : R → Prop} {k : Nat} {x : It} {id : ByteArray} {h : AHeap} {κ : Value → AHeap → Option R} {C : CallF} (hC : C = DD k) (kt : ∀ h', Keeps h h' → Gx.Wp (κ (.int .i64 (cmpB x.1 id)) h') Q) :
  Gx.Wp (callD C (.func (.func 127) ⟨[]⟩ ⟨[]⟩) [.agg ⟨itC x⟩, .string id] h κ) Q := by
 subst hC
 show Gx.Wp ((lookup_Table_Places_1 k noC x id h).bind fun r => κ (.int .i64 r.1) r.2) Q
 simp only [lookup_Table_Places_1]
 refine .call (P := fun r => r.1 = cmpB x.1 id ∧ Keeps h r.2) (Wp.newE fun H1 e1 k1 n1 g1 => ?_) fun r ⟨q1, q2⟩ => by rw [q1]; exact kt _ q2
 exact .bnd (show ldS ⟨h.next, 0, none⟩ H1 = some x.1 by simp [ldS, AHeap.rd1, g1, decS]) (.bnd (cmpS_spec k noC _ _ _) (.of ⟨rfl, k1⟩))
section
variable {k : Nat} {h : AHeap} {s : Slc} {xs : List It}
theorem half {i j : Nat} (hi : i < j) (hj : j ≤ 1000000000) : IntKind.wrap .i64 (Int.fdiv (IntKind.wrap .u64 (IntKind.wrap .i64 ((i : Int) + (j : Int)))) 2) = (((i + j) / 2 : Nat) : Int) := by
 have e1 : IntKind.wrap .i64 ((i : Int) + (j : Int)) = ((i + j : Nat) : Int) := by rw [Gx.w64 _ (by omega)]; omega
 have e2 : IntKind.wrap .u64 ((i + j : Nat) : Int) = ((i + j : Nat) : Int) := Gx.wr_u64 _ (by omega) (by omega)
 rw [e1, e2, Int.fdiv_eq_ediv_of_nonneg _ (by omega), Gx.w64 _ (by omega)]
 omega
theorem search_spec (hk : 100 ≤ k) (hkx : xs.length + 10 ≤ k) (R : RowW 6 itC h s xs) (hl : xs.length ≤ 1000000000) (x : It) {p : Nat} (hp : p ≤ xs.length) (h1 : ∀ i y, i < p → xs[i]? = some y → ord y x < 0) (h2 : ∀ i y, p ≤ i → xs[i]? = some y → ¬ ord y x < 0) :
  Gx.Wp (slices_BinarySearchFunc_api_Item_api_Item_api_Item k (DD k) s x (.func (.func 78) ⟨[]⟩ ⟨[]⟩) h) fun z => z.1.1 = (p : Int) ∧ (z.1.2 = true ↔ ∃ y, xs[p]? = some y ∧ ord y x = 0) ∧ Keeps h z.2 := by
 simp only [slices_BinarySearchFunc_api_Item_api_Item_api_Item]
 refine Wp.newE fun H1 e1 k1 n1 g1 => Wp.jn fun j8 hj => ?_
 unfold slices_BinarySearchFunc_api_Item_api_Item_api_Item_l0
 obtain ⟨bot, eb⟩ := iterK_of (fun _ _ _ _ _ _ _ => none) (slices_BinarySearchFunc_api_Item_api_Item_api_Item_l0b k (DD k) j8) (show xs.length + 1 ≤ k by omega)
 rw [eb]
 have loop : ∀ (d i j : Nat) (H : AHeap), j - i ≤ d → i ≤ p → p ≤ j → j ≤ xs.length → Keeps H1 H →
   Gx.Wp (iterK bot (d + 1) (slices_BinarySearchFunc_api_Item_api_Item_api_Item_l0b k (DD k) j8) s (.func (.func 78) ⟨[]⟩ ⟨[]⟩) (some ⟨h.next, 0, none⟩) (s.len : Int) (i : Int) (j : Int) H) fun z => z.1.1 = (p : Int) ∧ (z.1.2 = true ↔ ∃ y, xs[p]? = some y ∧ ord y x = 0) ∧ Keeps h z.2 := fun d => by
  induction d with
  | zero =>
   intro i j H hd hi hj' hjl kp
   obtain rfl : i = p := by omega
   obtain rfl : j = i := by omega
   rw [iterK_s]; simp only [slices_BinarySearchFunc_api_Item_api_Item_api_Item_l0b]
   refine .ifn (by simp) ?_
   rw [hj]
   by_cases c : j < xs.length
   ·obtain ⟨y, hy⟩ := isome c
    obtain ⟨q, b1, b2, _⟩ := (R.keeps (k1.trans kp)).ld itC_len (by decide) hy
    have gt := kp.got (by omega) g1
    refine .ifp (by rw [R.len]; simp; omega) (.bnd b1 (.bnd b2 (.bnd (decI6 y) (.bnd rfl (.bnd (sldA_at gt rfl) (.bnd (decI6 x) (dd_order (x := y) (y := x) hk rfl fun h' k' => .bnd rfl (.of ⟨rfl, ?_, (k1.trans kp).trans k'⟩))))))))
    simp [hy]
   ·refine .ifn (by rw [R.len]; simp; omega) (.of ⟨rfl, ?_, k1.trans kp⟩)
    simp only [Bool.false_eq_true, false_iff, not_exists, not_and]
    intro y hy
    rw [List.getElem?_eq_none (by omega)] at hy; cases hy
  | succ d ih =>
   intro i j H hd hi hj' hjl kp
   rw [iterK_s]; simp only [slices_BinarySearchFunc_api_Item_api_Item_api_Item_l0b]
   by_cases c : i < j
   ·obtain ⟨y, hy⟩ := isome (l := xs) (i := (i + j) / 2) (by omega)
    obtain ⟨q, b1, b2, _⟩ := (R.keeps (k1.trans kp)).ld itC_len (by decide) hy
    have gt := kp.got (by omega) g1
    refine .ifp (by simp; omega) ?_
    rw [half c (by omega)]
    refine .bnd b1 (.bnd b2 (.bnd (decI6 y) (.bnd rfl (.bnd (sldA_at gt rfl) (.bnd (decI6 x) (dd_order (x := y) (y := x) hk rfl fun h' k' => .bnd rfl ?_))))))
    by_cases c2 : ord y x < 0
    ·refine .ifp (by simpa using c2) ?_
     rw [Gx.w1 (by omega)]
     refine ih _ j h' (by omega) ?_ hj' hjl (kp.trans k')
     rcases Nat.lt_or_ge ((i + j) / 2) p with g | g
     ·exact g
     ·exact absurd c2 (h2 _ y g hy)
    ·refine .ifn (by simpa using c2) ?_
     refine ih i _ h' (by omega) hi ?_ (by omega) (kp.trans k')
     rcases Nat.lt_or_ge ((i + j) / 2) p with g | g
     ·exact absurd (h1 _ y g hy) c2
     ·exact g
   ·have := ih i j H (by omega) hi hj' hjl kp
    cases d with
    | zero =>
     rw [iterK_s] at this; simp only [slices_BinarySearchFunc_api_Item_api_Item_api_Item_l0b] at this
     rw [if_neg (by simp; omega)] at this ⊢
     exact this
    | succ d =>
     rw [iterK_s] at this; simp only [slices_BinarySearchFunc_api_Item_api_Item_api_Item_l0b] at this
     rw [if_neg (by simp; omega)] at this ⊢
     exact this
 have := loop xs.length 0 xs.length H1 (by omega) (by omega) hp (Nat.le_refl _) (.refl _ _)
 have e : ((xs.length : Nat) : Int) = (s.len : Int) := by rw [R.len]
 rw [e] at this
 exact this
theorem searchId_spec (hkx : xs.length + 10 ≤ k) (R : RowW 6 itC h s xs) (hl : xs.length ≤ 1000000000) (id : ByteArray) {p : Nat} (hp : p ≤ xs.length) (h1 : ∀ i y, i < p → xs[i]? = some y → cmpB y.1 id < 0) (h2 : ∀ i y, p ≤ i → xs[i]? = some y → ¬ cmpB y.1 id < 0) :
  Gx.Wp (slices_BinarySearchFunc_api_Item_api_Item_string k (DD k) s id (.func (.func 127) ⟨[]⟩ ⟨[]⟩) h) fun z => z.1.1 = (p : Int) ∧ Keeps h z.2 := by
 simp only [slices_BinarySearchFunc_api_Item_api_Item_string]
 refine Wp.jn fun j7 hj => ?_
 unfold slices_BinarySearchFunc_api_Item_api_Item_string_l0
 obtain ⟨bot, eb⟩ := iterK_of (fun _ _ _ _ _ _ _ => none) (slices_BinarySearchFunc_api_Item_api_Item_string_l0b k (DD k) j7) (show xs.length + 1 ≤ k by omega)
 rw [eb]
 have fin : ∀ (H : AHeap), Keeps h H → Gx.Wp (j7 s id (.func (.func 127) ⟨[]⟩ ⟨[]⟩) (s.len : Int) (p : Int) H) fun z => z.1.1 = (p : Int) ∧ Keeps h z.2 := by
  intro H kp
  rw [hj]
  by_cases c : p < xs.length
  ·obtain ⟨y, hy⟩ := isome c
   obtain ⟨q, b1, b2, _⟩ := (R.keeps kp).ld itC_len (by decide) hy
   exact .ifp (by rw [R.len]; simp; omega) (.bnd b1 (.bnd b2 (.bnd (decI6 y) (dd_places (x := y) (id := id) rfl fun h' k' => .bnd rfl (.of ⟨rfl, kp.trans k'⟩)))))
  ·exact .ifn (by rw [R.len]; simp; omega) (.of ⟨rfl, kp⟩)
 have loop : ∀ (d i j : Nat) (H : AHeap), j - i ≤ d → i ≤ p → p ≤ j → j ≤ xs.length → Keeps h H →
   Gx.Wp (iterK bot (d + 1) (slices_BinarySearchFunc_api_Item_api_Item_string_l0b k (DD k) j7) s id (.func (.func 127) ⟨[]⟩ ⟨[]⟩) (s.len : Int) (i : Int) (j : Int) H) fun z => z.1.1 = (p : Int) ∧ Keeps h z.2 := fun d => by
  induction d with
  | zero =>
   intro i j H hd hi hj' hjl kp
   obtain rfl : i = p := by omega
   obtain rfl : j = i := by omega
   rw [iterK_s]; simp only [slices_BinarySearchFunc_api_Item_api_Item_string_l0b]
   exact .ifn (by simp) (fin H kp)
  | succ d ih =>
   intro i j H hd hi hj' hjl kp
   rw [iterK_s]; simp only [slices_BinarySearchFunc_api_Item_api_Item_string_l0b]
   by_cases c : i < j
   ·obtain ⟨y, hy⟩ := isome (l := xs) (i := (i + j) / 2) (by omega)
    obtain ⟨q, b1, b2, _⟩ := (R.keeps kp).ld itC_len (by decide) hy
    refine .ifp (by simp; omega) ?_
    rw [half c (by omega)]
    refine .bnd b1 (.bnd b2 (.bnd (decI6 y) (dd_places (x := y) (id := id) rfl fun h' k' => .bnd rfl ?_)))
    by_cases c2 : cmpB y.1 id < 0
    ·refine .ifp (by simpa using c2) ?_
     rw [Gx.w1 (by omega)]
     refine ih _ j h' (by omega) ?_ hj' hjl (kp.trans k')
     rcases Nat.lt_or_ge ((i + j) / 2) p with g | g
     ·exact g
     ·exact absurd c2 (h2 _ y g hy)
    ·refine .ifn (by simpa using c2) ?_
     refine ih i _ h' (by omega) hi ?_ (by omega) (kp.trans k')
     rcases Nat.lt_or_ge ((i + j) / 2) p with g | g
     ·exact absurd (h1 _ y g hy) c2
     ·exact g
   ·obtain rfl : i = p := by omega
    exact .ifn (by simp; omega) (fin H kp)
 have := loop xs.length 0 xs.length h (by omega) (by omega) hp (Nat.le_refl _) (.refl _ _)
 have e : ((xs.length : Nat) : Int) = (s.len : Int) := by rw [R.len]
 rw [e] at this
 exact this
end
end Gc
namespace Gc
open Go Gx
structure SlotB (base : Nat) (h : AHeap) (tb b : Nat) (sp : Option Nat) (cap : Nat) (R : List Value) (s : Slc) (xs : List It) : Prop where
 s : s = ⟨some ⟨b, 0, sp⟩, xs.length, cap⟩
 blk : h.get b = some (.cells (xs.flatMap itC ++ R) 57 true 0)
 one : allOne R = true
 ge : base ≤ b
 lt : b < h.next
 ne : b ≠ tb
 le : xs.length ≤ cap
 room : cap * 6 ≤ xs.length * 6 + R.length
 sp : (sp = some 7 ∧ cap ≠ 0) ∨ (sp = some 0 ∧ cap = 0)
def SlotR (base : Nat) (h : AHeap) (tb : Nat) (s : Slc) (xs : List It) : Prop := (s = ⟨none, 0, 0⟩ ∧ xs = []) ∨ ∃ b sp cap R, SlotB base h tb b sp cap R s xs
section
variable {base tb : Nat} {h h' : AHeap} {s : Slc} {xs : List It}
theorem SlotR.chg {S : Nat → Prop} (A : SlotR base h tb s xs) (c : Chg S h h') (hs : ∀ a, s.a = some a → ¬ S a.block) : SlotR base h' tb s xs := by
 rcases A with A | ⟨b, sp, cap, R, A⟩
 ·exact .inl A
 ·exact .inr ⟨b, sp, cap, R, A.s, (c.oth b A.lt (hs ⟨b, 0, sp⟩ (by rw [A.s]))).trans A.blk, A.one, A.ge, Nat.lt_of_lt_of_le A.lt c.nx, A.ne, A.le, A.room, A.sp⟩
theorem SlotR.keeps (A : SlotR base h tb s xs) (c : Keeps h h') : SlotR base h' tb s xs := A.chg c fun _ _ f => f
theorem SlotR.len (A : SlotR base h tb s xs) : s.len = xs.length := by
 rcases A with ⟨rfl, rfl⟩ | ⟨b, sp, cap, R, A⟩
 ·rfl
 ·rw [A.s]
theorem flat_get {ys : List It} {R : List Value} {i : Nat} {x : It} (hx : ys[i]? = some x) (j : Nat) (v : Value) (hv : (itC x)[j]? = some v) : (ys.flatMap itC ++ R)[i * 6 + j]? = some v := by
 have := flatW_get itC_len hx j v hv
 rw [List.getElem?_append_left (List.getElem?_eq_some_iff.1 this).1]; exact this
theorem SlotR.row (A : SlotR base h tb s xs) : RowW 6 itC h s xs := by
 rcases A with ⟨rfl, rfl⟩ | ⟨b, sp, cap, R, A⟩
 ·exact RowW.nil _ _ _ _ _
 ·rw [A.s]
  exact ⟨rfl, fun i x hx => ⟨_, _, _, _, _, rfl, A.lt, A.blk, fun j v hv => by rw [Nat.zero_add]; exact flat_get hx j v hv⟩⟩
theorem SlotR.own (A : SlotR base h tb s xs) : ∀ a, s.a = some a → base ≤ a.block ∧ a.block < h.next ∧ a.block ≠ tb := by
 rcases A with ⟨rfl, rfl⟩ | ⟨b, sp, cap, R, A⟩
 ·intro a ha; cases ha
 ·intro a ha; rw [A.s] at ha; cases ha; exact ⟨A.ge, A.lt, A.ne⟩
theorem flat_len (ys : List It) : (ys.flatMap itC).length = ys.length * 6 := flatW_length itC_len ys
theorem flat_take (ys : List It) : ∀ p, (ys.flatMap itC).take (p * 6) = (ys.take p).flatMap itC
 | 0 => by simp
 | p + 1 => by
  cases ys with
  | nil => simp
  | cons y ys =>
   have e : (p + 1) * 6 = (itC y).length + p * 6 := by rw [itC_len]; omega
   rw [List.flatMap_cons, e, List.take_length_add_append, flat_take ys p]
   simp
theorem flat_drop (ys : List It) : ∀ p, (ys.flatMap itC).drop (p * 6) = (ys.drop p).flatMap itC
 | 0 => by simp
 | p + 1 => by
  cases ys with
  | nil => simp
  | cons y ys =>
   have e : (p + 1) * 6 = (itC y).length + p * 6 := by rw [itC_len]; omega
   rw [List.flatMap_cons, e, List.drop_length_add_append, flat_drop ys p]
   simp
theorem flat_one (ys : List It) : allOne (ys.flatMap itC) = true := flatW_one itC_one ys
theorem ins_spec (k : Nat) (D : CallF) (A : SlotR base h tb s xs) (hb : base ≤ h.next) (htb : tb < h.next) (x : It) {p : Nat} (hp : p ≤ xs.length) (hl : xs.length ≤ 1000000000) {vb : Nat} (hv : h.get vb = some (.cells (itC x) 57 true 0)) (_hvl : vb < h.next) (hne : ∀ a, s.a = some a → a.block ≠ vb) :
  ∃ s' h', slices_Insert_api_Item_api_Item k D s (p : Int) ⟨some ⟨vb, 0, some 0⟩, 1, 1⟩ h = some (s', h') ∧ SlotR base h' tb s' (xs.take p ++ x :: xs.drop p) ∧ Chg (ofS s) h h' ∧ ∀ a, s'.a = some a → h.next ≤ a.block ∨ ∃ b, s.a = some b ∧ b.block = a.block := by
 have er : rdS 6 (⟨some ⟨vb, 0, some 0⟩, 1, 1⟩ : Slc) h = some (itC x) := by
  simp only [rdS]
  rw [rdL_ok hv (by simp [itC])]
  rfl
 have F : slices_Insert_api_Item_api_Item0 k D = insF 6 64 57 [.string ⟨#[]⟩, .string ⟨#[]⟩, .int .i64 0, .int .i64 0, .int .i64 0, .int .i64 0] := f_slices_Insert_api_Item_api_Item0 k D
 simp only [slices_Insert_api_Item_api_Item]
 rw [F]
 rcases A with ⟨rfl, rfl⟩ | ⟨b, sp, cap, R, A⟩
 ·have hp0 : p = 0 := by simpa using hp
  subst hp0
  have e0 : insOk 6 64 57 (⟨none, 0, 0⟩ : Slc) ((0 : Nat) : Int) (⟨some ⟨vb, 0, some 0⟩, 1, 1⟩ : Slc) h = none := rfl
  refine ⟨⟨some ⟨h.next, 0, some 7⟩, 1, 1⟩, h.new (.cells (itC x) 57 true 0), ?_, .inr ⟨h.next, some 7, 1, [], by simp, by simp, rfl, hb, by simp, by omega, by simp, by simp, .inl ⟨rfl, by decide⟩⟩, Chg.new _ _, fun a ha => by cases ha; exact .inl (Nat.le_refl _)⟩
  unfold insA
  rw [e0]
  unfold insF
  have e1 : Gx.subL 6 (⟨none, 0, 0⟩ : Slc) (some ((0 : Nat) : Int)) none none = some ⟨none, 0, 0⟩ := rfl
  rw [e1, Option.bind_some, if_neg (by simp), if_pos (by simp), er, Option.bind_some]
  rfl
 ·have hs := A.s
  by_cases hpe : p = xs.length
  ·-- behind all
   subst hpe
   have e0 : insOk 6 64 57 s ((xs.length : Nat) : Int) (⟨some ⟨vb, 0, some 0⟩, 1, 1⟩ : Slc) h = none := by
    rw [hs]
    unfold insOk
    simp only [A.blk, hv]
    rw [if_neg]
    intro q
    have := q.2.2.2.2.2.2.1
    omega
   have e1 : Gx.subL 6 s (some ((xs.length : Nat) : Int)) none none ≠ none := by
    rw [hs]
    have hsp : spOk sp 6 = true := by rcases A.sp with ⟨rfl, _⟩ | ⟨rfl, _⟩ <;> rfl
    have := A.le
    simp only [Gx.subL, Option.getD_none, Option.getD_some, hsp, if_true]
    rw [if_pos (by omega)]
    simp
   obtain ⟨t1, e1⟩ := Option.ne_none_iff_exists'.1 e1
   rw [List.take_length, List.drop_length]
   have run : ∀ {s' : Slc} {h' : AHeap}, appendA 6 64 57 h s (itC x) 1 = some (s', h') → insA 6 64 57 (insF 6 64 57 [.string ⟨#[]⟩, .string ⟨#[]⟩, .int .i64 0, .int .i64 0, .int .i64 0, .int .i64 0]) s ((xs.length : Nat) : Int) ⟨some ⟨vb, 0, some 0⟩, 1, 1⟩ h = some (s', h') := fun ea => by
    unfold insA
    rw [e0]
    unfold insF
    rw [e1, Option.bind_some, if_neg (by simp), if_pos (by rw [hs]; simp), er, Option.bind_some, ea]
    rfl
   have efl : (xs ++ [x]).flatMap itC = xs.flatMap itC ++ itC x := by simp
   by_cases hroom : xs.length + 1 ≤ cap
   ·-- in place
    have hRl : 6 ≤ R.length := by have := A.room; omega
    have hw : h.wrL b (xs.length * 6) (itC x) = some (h.set b (.cells (splice (xs.flatMap itC ++ R) (xs.length * 6) (itC x)) 57 true 0)) :=
     wrL_ok A.blk (by rw [List.length_append, flat_len, itC_len]; omega) rfl (by simp [itC])
    have esp : splice (xs.flatMap itC ++ R) (xs.length * 6) (itC x) = (xs ++ [x]).flatMap itC ++ R.drop 6 := by
     unfold splice
     rw [itC_len, ← flat_len xs, List.take_left, List.drop_append, List.drop_of_length_le (by omega), efl]
     simp
    refine ⟨⟨some ⟨b, 0, sp⟩, xs.length + 1, cap⟩, h.set b (.cells ((xs ++ [x]).flatMap itC ++ R.drop 6) 57 true 0), run ?_, .inr ⟨b, sp, cap, R.drop 6, by simp, by simp, ?_, A.ge, by simpa using A.lt, A.ne, by simp; omega, ?_, A.sp⟩, Chg.set (.inr ⟨⟨b, 0, sp⟩, by rw [hs], rfl⟩), fun a ha => by cases ha; exact .inr ⟨⟨b, 0, sp⟩, by rw [hs], rfl⟩⟩
    ·rw [hs]
     unfold appendA
     simp only
     rw [if_pos (by omega), if_neg (by decide), Nat.zero_add, hw, esp]
     rfl
    ·exact allOne_sub A.one fun v hv => List.mem_of_mem_drop hv
    ·rw [List.length_drop]; have := A.room; simp; omega
   ·-- elsewhere
    have hcap : cap = xs.length := by have := A.le; omega
    refine ⟨⟨some ⟨h.next, 0, some 7⟩, xs.length + 1, xs.length + 1⟩, (if cap = 0 then h else h.kill b).new (.cells ((xs ++ [x]).flatMap itC) 57 true 0), run ?_, .inr ⟨h.next, some 7, xs.length + 1, [], by simp, ?_, rfl, hb, ?_, by omega, by simp, by simp, .inl ⟨rfl, by omega⟩⟩, ?_, fun a ha => by cases ha; exact .inl (Nat.le_refl _)⟩
    ·rw [hs]
     unfold appendA
     simp only
     rw [if_neg (by omega), if_pos (by omega)]
     rcases A.sp with ⟨rfl, h0⟩ | ⟨rfl, h0⟩
     ·simp only [A.blk]
      rw [if_pos ⟨h0, trivial, by rw [List.length_append, flat_len]; omega, Nat.zero_le _, trivial, trivial, rfl⟩, if_neg h0, ← flat_len xs, List.take_left, efl]
     ·have hx0 : xs = [] := List.length_eq_zero_iff.1 (by omega)
      subst hx0
      simp [AHeap.rdL, h0]
    ·split <;> simp
    ·split <;> simp
    ·by_cases h0 : cap = 0
     ·rw [if_pos h0]; exact Chg.new _ _
     ·rw [if_neg h0]; exact Chg.kill_new (.inr ⟨⟨b, 0, sp⟩, by rw [hs], rfl⟩)
  ·-- in between
   have hpl : p < xs.length := by omega
   have hcap : cap ≠ 0 := by have := A.le; omega
   have hsp : sp = some 7 := by rcases A.sp with ⟨e, _⟩ | ⟨_, e⟩; exact e; exact absurd e hcap
   subst hsp
   have htk : (xs.flatMap itC ++ R).take (xs.length * 6) = xs.flatMap itC := by rw [← flat_len xs, List.take_left]
   have e0 : insOk 6 64 57 s (p : Int) (⟨some ⟨vb, 0, some 0⟩, 1, 1⟩ : Slc) h = some (xs.flatMap itC ++ R, itC x, b, vb) := by
    rw [hs]
    unfold insOk
    simp only [A.blk, hv]
    rw [if_pos]
    refine ⟨hne ⟨b, 0, some 7⟩ (by rw [hs]), trivial, trivial, trivial, trivial, by omega, by omega, by rw [List.length_append, flat_len]; omega, trivial, by simp [itC], by decide, rfl, ?_, by omega, by decide, A.le⟩
    rw [htk]; exact flat_one xs
   refine ⟨⟨some ⟨h.next, 0, some 7⟩, xs.length + 1, xs.length + 1⟩, (h.kill b).new (.cells ((xs.take p ++ x :: xs.drop p).flatMap itC) 57 true 0), ?_, .inr ⟨h.next, some 7, xs.length + 1, [], by simp; omega, by simp, rfl, hb, by simp, by omega, by simp; omega, by simp; omega, .inl ⟨rfl, by omega⟩⟩, Chg.kill_new (.inr ⟨⟨b, 0, some 7⟩, by rw [hs], rfl⟩), fun a ha => by cases ha; exact .inl (Nat.le_refl _)⟩
   unfold insA
   rw [e0]
   have ei : insC 6 (xs.flatMap itC ++ R) (itC x) xs.length p = (xs.take p ++ x :: xs.drop p).flatMap itC := by
    unfold insC
    rw [htk, List.take_append_of_le_length (by rw [flat_len]; omega), flat_take, flat_drop]
    simp [itC]
   simp only [hs, Int.toNat_natCast, ei]
end
end Gc
namespace Gc
open Go Gx
def Lx {α β : Type} (lt : α → α → Prop) (R : β → β → Prop) (x y : α × β) : Prop := lt x.1 y.1 ∨ x.1 = y.1 ∧ R x.2 y.2
theorem Lx.trans {α β : Type} {lt : α → α → Prop} {R : β → β → Prop} (h1 : ∀ a b c, lt a b → lt b c → lt a c) (h2 : ∀ a b c, R a b → R b c → R a c) : ∀ x y z : α × β, Lx lt R x y → Lx lt R y z → Lx lt R x z := by
 rintro ⟨a, b⟩ ⟨c, d⟩ ⟨e, f⟩ (p | ⟨p, p'⟩) (q | ⟨q, q'⟩)
 ·exact .inl (h1 _ _ _ p q)
 ·simp only at q p; subst q; exact .inl p
 ·simp only at q p; subst p; exact .inl q
 ·simp only at q p; subst p; subst q; exact .inr ⟨rfl, h2 _ _ _ p' q'⟩
theorem Lx.total {α β : Type} {lt : α → α → Prop} {R : β → β → Prop} (h1 : ∀ a b, lt a b ∨ a = b ∨ lt b a) (h2 : ∀ a b, R a b ∨ a = b ∨ R b a) : ∀ x y : α × β, Lx lt R x y ∨ x = y ∨ Lx lt R y x := by
 rintro ⟨a, b⟩ ⟨c, d⟩
 rcases h1 a c with h | h | h
 ·exact .inl (.inl h)
 ·subst h
  rcases h2 b d with g | g | g
  ·exact .inl (.inr ⟨rfl, g⟩)
  ·subst g; exact .inr (.inl rfl)
  ·exact .inr (.inr (.inr ⟨rfl, g⟩))
 ·exact .inr (.inr (.inl h))
def ltB (a b : ByteArray) : Prop := bl a < bl b
theorem ltB_trans (a b c : ByteArray) (h1 : ltB a b) (h2 : ltB b c) : ltB a c := List.lt_trans h1 h2
theorem ltB_total (a b : ByteArray) : ltB a b ∨ a = b ∨ ltB b a := by
 by_cases c : bl a < bl b
 ·exact .inl c
 ·by_cases d : bl b < bl a
  ·exact .inr (.inr d)
  ·exact .inr (.inl (bl_inj (List.le_antisymm (List.not_lt.1 d) (List.not_lt.1 c))))
def ltZ (a b : Int) : Prop := a < b
theorem ltZ_trans (a b c : Int) (h1 : ltZ a b) (h2 : ltZ b c) : ltZ a c := Int.lt_trans h1 h2
theorem ltZ_total (a b : Int) : ltZ a b ∨ a = b ∨ ltZ b a := by unfold ltZ; omega
def keyI (x : It) : ByteArray × ByteArray × Int × Int × Int × Int := (x.1, x.2.1, x.2.2.2.1, x.2.2.2.2.1, x.2.2.2.2.2, x.2.2.1)
theorem keyI_inj {x y : It} (h : keyI x = keyI y) : x = y := by
 obtain ⟨a, b, c, d, e, f⟩ := x
 obtain ⟨a', b', c', d', e', f'⟩ := y
 simp only [keyI, Prod.mk.injEq] at h
 obtain ⟨rfl, rfl, rfl, rfl, rfl, rfl⟩ := h
 rfl
def ltI : ByteArray × ByteArray × Int × Int × Int × Int → ByteArray × ByteArray × Int × Int × Int × Int → Prop := Lx ltB (Lx ltB (Lx ltZ (Lx ltZ (Lx ltZ ltZ))))
theorem lessI_iff (x y : It) : lessI x y = true ↔ ltI (keyI x) (keyI y) := by
 rw [less_same]
 unfold rlessI ltI Lx keyI ltB ltZ
 simp only
 by_cases c1 : x.1 = y.1
 rotate_left
 ·simp [c1]
 by_cases c2 : x.2.1 = y.2.1
 rotate_left
 ·simp [c1, c2, List.lt_irrefl]
 by_cases c3 : x.2.2.2.1 = y.2.2.2.1
 rotate_left
 ·simp [c1, c2, c3, List.lt_irrefl]
 by_cases c4 : x.2.2.2.2.1 = y.2.2.2.2.1
 rotate_left
 ·simp [c1, c2, c3, c4, List.lt_irrefl]
 by_cases c5 : x.2.2.2.2.2 = y.2.2.2.2.2
 rotate_left
 ·simp [c1, c2, c3, c4, c5, List.lt_irrefl]
 simp [c1, c2, c3, c4, c5, List.lt_irrefl]
theorem lessI_trans {x y z : It} (h1 : lessI x y = true) (h2 : lessI y z = true) : lessI x z = true := by
 rw [lessI_iff] at *
 exact Lx.trans ltB_trans (Lx.trans ltB_trans (Lx.trans ltZ_trans (Lx.trans ltZ_trans (Lx.trans ltZ_trans ltZ_trans)))) _ _ _ h1 h2
theorem lessI_total (x y : It) : lessI x y = true ∨ x = y ∨ lessI y x = true := by
 rw [lessI_iff, lessI_iff]
 rcases Lx.total ltB_total (Lx.total ltB_total (Lx.total ltZ_total (Lx.total ltZ_total (Lx.total ltZ_total ltZ_total)))) (keyI x) (keyI y) with h | h | h
 ·exact .inl h
 ·exact .inr (.inl (keyI_inj h))
 ·exact .inr (.inr h)
theorem ord_zero {x y : It} : ord x y = 0 ↔ x = y := by
 constructor
 ·intro h
  have e : ∀ (c : Int) (l : List Int), orL (c :: l) = 0 → c = 0 ∧ orL l = 0 := fun c l h => by
   simp only [orL] at h
   by_cases hc : c = 0
   ·simp [hc] at h; exact ⟨hc, h⟩
   ·simp [hc] at h
  unfold ord ordL at h
  obtain ⟨a1, h⟩ := e _ _ h
  obtain ⟨a2, h⟩ := e _ _ h
  obtain ⟨a3, h⟩ := e _ _ h
  obtain ⟨a4, h⟩ := e _ _ h
  obtain ⟨a5, h⟩ := e _ _ h
  obtain ⟨a6, h⟩ := e _ _ h
  rw [cmpB_zero] at a1 a2
  rw [cmpI_zero] at a3 a4 a5 a6
  exact keyI_inj (by simp [keyI, a1, a2, a3, a4, a5, a6])
 ·rintro rfl
  have b : ∀ a : ByteArray, cmpB a a = 0 := fun a => cmpB_zero.2 rfl
  have i : ∀ a : Int, cmpI a a = 0 := fun a => cmpI_zero.2 rfl
  simp [ord, ordL, orL, b, i]
theorem lessI_irrefl (x : It) : lessI x x = false := by
 have : ord x x = 0 := ord_zero.2 rfl
 simp [lessI, this]
theorem lessI_asymm {x y : It} (h : lessI x y = true) : lessI y x = false := by
 cases c : lessI y x
 ·rfl
 ·have := lessI_trans h c
  rw [lessI_irrefl] at this; cases this
def Rises (xs : List It) : Prop := xs.Pairwise fun x y => lessI x y = true
def posI (x : It) (xs : List It) : Nat := (xs.takeWhile fun y => lessI y x).length
open Classical in
noncomputable def putI (x : It) (xs : List It) : List It := if x ∈ xs then xs else (xs.takeWhile fun y => lessI y x) ++ x :: xs.dropWhile fun y => lessI y x
theorem posI_le (x : It) (xs : List It) : posI x xs ≤ xs.length := by
 unfold posI
 exact (List.takeWhile_sublist _).length_le
theorem take_pos (x : It) (xs : List It) : xs.take (posI x xs) = xs.takeWhile fun y => lessI y x := by
 unfold posI
 induction xs with
 | nil => rfl
 | cons y xs ih =>
  by_cases c : lessI y x = true
  ·simp [c, ih]
  ·simp [c]
theorem drop_pos (x : It) (xs : List It) : xs.drop (posI x xs) = xs.dropWhile fun y => lessI y x := by
 unfold posI
 induction xs with
 | nil => rfl
 | cons y xs ih =>
  by_cases c : lessI y x = true
  ·simp [c, ih]
  ·simp [c]
theorem pos_ahead {x : It} : ∀ {xs : List It} {i : Nat} {y : It}, i < posI x xs → xs[i]? = some y → lessI y x = true
 | [], i, y, h, _ => by simp [posI] at h
 | z :: xs, i, y, h, hy => by
  unfold posI at h
  by_cases c : lessI z x = true
  ·simp only [List.takeWhile_cons, c, if_true, List.length_cons] at h
   cases i with
   | zero => simp at hy; subst hy; exact c
   | succ i => exact pos_ahead (xs := xs) (i := i) (by unfold posI; omega) (by simpa using hy)
  ·simp [c] at h
theorem pos_behind {x : It} : ∀ {xs : List It} {i : Nat} {y : It}, Rises xs → posI x xs ≤ i → xs[i]? = some y → lessI y x = false
 | [], i, y, _, _, hy => by simp at hy
 | z :: xs, i, y, hr, h, hy => by
  unfold posI at h
  unfold Rises at hr
  rw [List.pairwise_cons] at hr
  by_cases c : lessI z x = true
  ·simp only [List.takeWhile_cons, c, if_true, List.length_cons] at h
   cases i with
   | zero => omega
   | succ i => exact pos_behind (xs := xs) (i := i) hr.2 (by unfold posI; omega) (by simpa using hy)
  ·have c' : lessI z x = false := by simpa using c
   cases i with
   | zero => simp at hy; subst hy; exact c'
   | succ i =>
    have hz := hr.1 y (List.mem_of_getElem? (by simpa using hy))
    cases d : lessI y x
    ·rfl
    ·rw [lessI_trans hz d] at c'; cases c'
theorem pos_found {x : It} {xs : List It} (hr : Rises xs) : (∃ y, xs[posI x xs]? = some y ∧ ord y x = 0) ↔ x ∈ xs := by
 constructor
 ·rintro ⟨y, hy, h⟩
  rw [ord_zero] at h
  subst h
  exact List.mem_of_getElem? hy
 ·intro hx
  obtain ⟨i, hi, e⟩ := List.getElem_of_mem hx
  have hx' : xs[i]? = some x := by rw [← e]; exact List.getElem?_eq_getElem hi
  have h1 : posI x xs ≤ i := Nat.le_of_not_lt fun q => by
   have := pos_ahead q hx'
   rw [lessI_irrefl] at this; cases this
  have hlt : posI x xs < xs.length := by omega
  obtain ⟨y, hy⟩ := isome hlt
  refine ⟨y, hy, ord_zero.2 ?_⟩
  by_cases e2 : posI x xs = i
  ·rw [e2, hx'] at hy; cases hy; rfl
  ·have hlt2 : posI x xs < i := by omega
   have hyx : lessI y x = true := by
    have hp := List.pairwise_iff_getElem.1 hr (posI x xs) i hlt (by omega) hlt2
    have e3 : xs[posI x xs] = y := (List.getElem?_eq_some_iff.1 hy).2
    rw [e3, e] at hp; exact hp
   rw [pos_behind hr (Nat.le_refl _) hy] at hyx; cases hyx
theorem put_rises {x : It} {xs : List It} (hr : Rises xs) : Rises (putI x xs) := by
 unfold putI
 split
 ·exact hr
 ·rename_i hx
  have ht : ∀ y ∈ xs.takeWhile (fun y => lessI y x), lessI y x = true := fun y hy => by
   rw [← take_pos] at hy
   obtain ⟨i, hi, e⟩ := List.getElem_of_mem hy
   have : (xs.take (posI x xs))[i]? = some y := by rw [← e]; exact List.getElem?_eq_getElem hi
   rw [List.getElem?_take] at this
   split at this
   ·rename_i hlt; exact pos_ahead hlt this
   ·cases this
  have hd : ∀ y ∈ xs.dropWhile (fun y => lessI y x), lessI x y = true := fun y hy => by
   rw [← drop_pos] at hy
   obtain ⟨i, hi, e⟩ := List.getElem_of_mem hy
   have h1 : (xs.drop (posI x xs))[i]? = some y := by rw [← e]; exact List.getElem?_eq_getElem hi
   rw [List.getElem?_drop] at h1
   have h2 := pos_behind hr (Nat.le_add_right _ _) h1
   rcases lessI_total x y with h | h | h
   ·exact h
   ·subst h; exact absurd (List.mem_of_getElem? h1) hx
   ·rw [h] at h2; cases h2
  unfold Rises at hr ⊢
  rw [List.pairwise_append, List.pairwise_cons]
  refine ⟨hr.sublist (List.takeWhile_sublist _), ⟨hd, hr.sublist (List.dropWhile_sublist _)⟩, fun a ha b hb => ?_⟩
  rcases List.mem_cons.1 hb with rfl | hb
  ·exact ht a ha
  ·exact lessI_trans (ht a ha) (hd b hb)
theorem put_len (x : It) (xs : List It) : (putI x xs).length ≤ xs.length + 1 := by
 unfold putI
 split
 ·omega
 ·have e := congrArg List.length (List.takeWhile_append_dropWhile (p := fun y => lessI y x) (l := xs))
  simp only [List.length_append, List.length_cons] at e ⊢
  omega
end Gc
namespace Gc
open Go Gx
def idx (id : ByteArray) : Nat := match bl id with
 | [] => 0
 | b :: _ => b.toNat
theorem idx_lt (id : ByteArray) : idx id < 256 := by
 unfold idx
 split
 ·omega
 ·rename_i b _ _; exact b.toNat_lt
def tabC (sl : Nat → Slc) : List Value := (List.range 256).map fun i => .slice (sl i).a (sl i).len (sl i).cap
theorem tabC_len (sl : Nat → Slc) : (tabC sl).length = 256 := by simp [tabC]
theorem tabC_get (sl : Nat → Slc) {i : Nat} (hi : i < 256) : (tabC sl)[i]? = some (.slice (sl i).a (sl i).len (sl i).cap) := by simp [tabC, hi]
def upd {α : Type} (f : Nat → α) (i : Nat) (x : α) : Nat → α := fun j => if j = i then x else f j
theorem tabC_set (sl : Nat → Slc) {i : Nat} (s : Slc) : (tabC sl).set i (.slice s.a s.len s.cap) = tabC (upd sl i s) := by
 apply List.ext_getElem?
 intro j
 rw [List.getElem?_set, tabC_len]
 by_cases hj : j < 256
 ·rw [tabC_get _ hj, tabC_get _ hj]
  by_cases e : i = j
  ·subst e; simp [hj, upd]
  ·simp [e, upd, Ne.symm e]
 ·rw [List.getElem?_eq_none (l := tabC sl) (by rw [tabC_len]; omega), List.getElem?_eq_none (l := tabC _) (by rw [tabC_len]; omega)]
  split <;> simp_all
def TOwn (tb : Nat) (sl : Nat → Slc) (y : Nat) : Prop := y = tb ∨ ∃ i, i < 256 ∧ ∃ a, (sl i).a = some a ∧ a.block = y
structure Tab (base : Nat) (h : AHeap) (tb : Nat) (sl : Nat → Slc) (F : Nat → List It) : Prop where
 blk : h.get tb = some (.cells (tabC sl) 123 true 0)
 lt : tb < h.next
 ge : base ≤ tb
 slot : ∀ i, i < 256 → SlotR base h tb (sl i) (F i)
 apart : ∀ i j a b, i < 256 → j < 256 → i ≠ j → (sl i).a = some a → (sl j).a = some b → a.block ≠ b.block
section
variable {base tb : Nat} {h h' : AHeap} {sl : Nat → Slc} {F : Nat → List It}
theorem Tab.own (T : Tab base h tb sl F) {y : Nat} (hy : TOwn tb sl y) : base ≤ y ∧ y < h.next := by
 rcases hy with rfl | ⟨i, hi, a, ha, rfl⟩
 ·exact ⟨T.ge, T.lt⟩
 ·have := (T.slot i hi).own a ha; exact ⟨this.1, this.2.1⟩
theorem Tab.chg {S : Nat → Prop} (T : Tab base h tb sl F) (c : Chg S h h') (hs : ∀ y, TOwn tb sl y → ¬ S y) : Tab base h' tb sl F :=
 ⟨(c.oth tb T.lt (hs tb (.inl rfl))).trans T.blk, Nat.lt_of_lt_of_le T.lt c.nx, T.ge, fun i hi => (T.slot i hi).chg c fun a ha => hs _ (.inr ⟨i, hi, a, ha, rfl⟩), T.apart⟩
theorem Tab.keeps (T : Tab base h tb sl F) (c : Keeps h h') : Tab base h' tb sl F := T.chg c fun _ _ f => f
theorem Tab.ext {G : Nat → List It} (T : Tab base h tb sl F) (e : ∀ i, i < 256 → F i = G i) : Tab base h tb sl G := ⟨T.blk, T.lt, T.ge, fun i hi => e i hi ▸ T.slot i hi, T.apart⟩
theorem tabC_new : List.replicate 256 (Value.slice none 0 0) = tabC fun _ => ⟨none, 0, 0⟩ := by
 apply List.ext_getElem?
 intro j
 rw [List.getElem?_replicate]
 by_cases hj : j < 256
 ·rw [tabC_get _ hj, if_pos hj]
 ·rw [if_neg hj, List.getElem?_eq_none (by rw [tabC_len]; omega)]
theorem new_spec (k : Nat) (D : CallF) (h : AHeap) : ∃ h', lookup_New k D h = some (some ⟨h.next, 0, none⟩, h') ∧ Keeps h h' ∧ Tab h.next h' h.next (fun _ => ⟨none, 0, 0⟩) (fun _ => []) := by
 unfold lookup_New
 rw [tabC_new]
 exact ⟨_, rfl, Keeps.new h _, by simp, by simp, Nat.le_refl _, fun i _ => .inl ⟨rfl, rfl⟩, fun i j a b _ _ _ ha => by cases ha⟩
theorem list_spec (k : Nat) (D : CallF) (tb : Nat) (id : ByteArray) (h : AHeap) : lookup_Table_list k D (some ⟨tb, 0, none⟩) id h = some (some ⟨tb, idx id, none⟩, h) := by
 simp only [lookup_Table_list, beq_ba]
 by_cases c : id = ⟨#[]⟩
 ·subst c
  rw [if_pos (by simp)]
  rfl
 ·rw [if_neg (by simp [c])]
  obtain ⟨b, t, e⟩ : ∃ b t, bl id = b :: t := List.exists_cons_of_ne_nil fun e => c (bl_inj (by rw [e]; rfl))
  have e1 : idxS id ((0 : Nat) : Int) = some (b.toNat : Int) := idxS_of (by rw [e]; rfl)
  have e2 : idx id = b.toNat := by unfold idx; rw [e]
  have e3 : idxA 256 1 ⟨tb, 0 + 0, none⟩ (b.toNat : Int) = some ⟨tb, 0 + 0 + b.toNat, none⟩ := sidxA0 b.toNat_lt
  refine bnd e1 (bnd rfl (bnd e3 ?_))
  rw [e2]; simp
theorem Tab.slotT {s' : Slc} {xs : List It} {i : Nat} (T : Tab base h tb sl F) (hi : i < 256) (c : Chg (ofS (sl i)) h h') (A : SlotR base h' tb s' xs) (hs : ∀ a, s'.a = some a → h.next ≤ a.block ∨ ∃ b, (sl i).a = some b ∧ b.block = a.block) :
  ∃ h2, st1 ⟨tb, i, none⟩ (.slice s'.a s'.len s'.cap) h' = some h2 ∧ Tab base h2 tb (upd sl i s') (upd F i xs) ∧ Chg (TOwn tb sl) h h2 ∧ ∀ y, TOwn tb (upd sl i s') y → h.next ≤ y ∨ TOwn tb sl y := by
 have htb : ¬ ofS (sl i) tb := fun ⟨a, ha, e⟩ => ((T.slot i hi).own a ha).2.2 e.symm
 have gb : h'.get tb = some (.cells (tabC sl) 123 true 0) := (c.oth tb T.lt htb).trans T.blk
 have e1 := st1_of (sp := none) (v := .slice s'.a s'.len s'.cap) gb (o := i) (by rw [tabC_len]; exact hi) rfl
 rw [tabC_set] at e1
 have nx := c.nx
 have c2 : Chg (· = tb) h' (h'.set tb (.cells (tabC (upd sl i s')) 123 true 0)) := Chg.set (.inr rfl)
 have own' : ∀ j, j < 256 → j ≠ i → ∀ a, (sl j).a = some a → ∀ b, s'.a = some b → a.block ≠ b.block := fun j hj hji a ha b hb => by
  have o1 := (T.slot j hj).own a ha
  rcases hs b hb with h1 | ⟨b2, h1, h2⟩
  ·omega
  ·rw [← h2]; exact T.apart j i a b2 hj hi hji ha h1
 refine ⟨_, e1, ⟨by simp, Nat.lt_of_lt_of_le T.lt nx, T.ge, fun j hj => ?_, fun j l a b hj hl hjl ha hb => ?_⟩, ?_, ?_⟩
 ·by_cases e : j = i
  ·subst e
   simp only [upd, if_true]
   exact A.chg c2 fun a ha e2 => (A.own a ha).2.2 e2
  ·simp only [upd, e, if_false]
   refine ((T.slot j hj).chg c fun a ha ⟨b, hb, e2⟩ => T.apart j i a b hj hi e ha hb e2).chg c2 fun a ha e2 => ((T.slot j hj).own a ha).2.2 e2
 ·simp only [upd] at ha hb
  by_cases e : j = i
  ·have el : l ≠ i := fun q => hjl (e.trans q.symm)
   rw [if_pos e] at ha; rw [if_neg el] at hb
   exact Ne.symm (own' l hl el b hb a ha)
  ·rw [if_neg e] at ha
   by_cases e2 : l = i
   ·rw [if_pos e2] at hb; exact own' j hj e a ha b hb
   ·rw [if_neg e2] at hb; exact T.apart j l a b hj hl hjl ha hb
 ·refine Chg.beh (T := (· = tb)) (c.wk fun y _ ⟨a, ha, e⟩ => .inr ⟨i, hi, a, ha, e.symm⟩) c2 fun y _ e => .inl e
 ·rintro y (rfl | ⟨j, hj, a, ha, rfl⟩)
  ·exact .inr (.inl rfl)
  ·simp only [upd] at ha
   by_cases e : j = i
   ·rw [if_pos e] at ha
    rcases hs a ha with h1 | ⟨b, h1, h2⟩
    ·exact .inl h1
    ·exact .inr (.inr ⟨i, hi, b, h1, h2⟩)
   ·rw [if_neg e] at ha
    exact .inr (.inr ⟨j, hj, a, ha, rfl⟩)
end
noncomputable def addF (F : Nat → List It) (x : It) : Nat → List It := upd F (idx x.1) (putI x (F (idx x.1)))
def RisesT (F : Nat → List It) : Prop := ∀ i, i < 256 → Rises (F i)
theorem addF_rises {F : Nat → List It} (hr : RisesT F) (x : It) : RisesT (addF F x) := fun i hi => by
 unfold addF upd
 split
 ·exact put_rises (hr _ (idx_lt _))
 ·exact hr i hi
def MaxT (F : Nat → List It) (n : Nat) : Prop := ∀ i, i < 256 → (F i).length ≤ n
theorem addF_max {F : Nat → List It} {n : Nat} (hm : MaxT F n) (x : It) : MaxT (addF F x) (n + 1) := fun i hi => by
 unfold addF upd
 split
 ·exact Nat.le_trans (put_len _ _) (by have := hm _ (idx_lt x.1); omega)
 ·have := hm i hi; omega
noncomputable def addL (F : Nat → List It) (xs : List It) : Nat → List It := xs.foldl addF F
theorem addL_rises : ∀ {xs : List It} {F : Nat → List It}, RisesT F → RisesT (addL F xs)
 | [], _, h => h
 | x :: xs, _, h => addL_rises (xs := xs) (addF_rises h x)
theorem addL_max : ∀ {xs : List It} {F : Nat → List It} {n : Nat}, MaxT F n → MaxT (addL F xs) (n + xs.length)
 | [], _, _, h => h
 | x :: xs, F, n, h => by
  have := addL_max (xs := xs) (addF_max h x)
  rw [List.length_cons, show n + (xs.length + 1) = n + 1 + xs.length by omega]; exact this
section
variable {k base tb : Nat} {h : AHeap} {sl : Nat → Slc} {F : Nat → List It} {s : Slc} {xs : List It}
theorem add_l0 (hk : 100 ≤ k) (bot) (j : AHeap → Option (Int × AHeap)) {Q : Int × AHeap → Prop} (R : RowW 6 itC h s xs) {N : Nat} (hN : N + xs.length ≤ 1000000000) (hkN : N + xs.length + 10 ≤ k) (hs : ∀ a, s.a = some a → ¬ TOwn tb sl a.block) (hb : base ≤ h.next)
  (hj : ∀ H sl', Tab base H tb sl' (addL F xs) → Chg (TOwn tb sl) h H → (∀ y, TOwn tb sl' y → h.next ≤ y ∨ TOwn tb sl y) → Gx.Wp (j H) Q) (_T : Tab base h tb sl F) (hr : RisesT F) (hm : MaxT F N) :
  ∀ (d i : Nat) (H : AHeap) (sl' : Nat → Slc), i + d = xs.length → Tab base H tb sl' (addL F (xs.take i)) → Chg (TOwn tb sl) h H → (∀ y, TOwn tb sl' y → h.next ≤ y ∨ TOwn tb sl y) →
   Gx.Wp (iterK bot (d + 1) (lookup_Table_Add_l0b k (DD k) j) (some ⟨tb, 0, none⟩) s (s.len : Int) (i : Int) H) Q := by
 intro d
 induction d with
 | zero =>
  intro i H sl' hd T' c ho
  obtain rfl : i = xs.length := by omega
  rw [List.take_length] at T'
  rw [iterK_s]; simp only [lookup_Table_Add_l0b]
  exact .ifn (by rw [R.len]; simp) (hj H sl' T' c ho)
 | succ d ih =>
  intro i H sl' hd T' c ho
  rw [iterK_s]; simp only [lookup_Table_Add_l0b]
  obtain ⟨x, hx⟩ := isome (l := xs) (i := i) (by omega)
  have RH : RowW 6 itC H s xs := R.chg c hs
  obtain ⟨q, b1, b2, _⟩ := RH.ld itC_len (by decide) hx
  have nH := c.nx
  have hi256 := idx_lt x.1
  refine .ifp (by rw [R.len]; simp; omega) (Gx.Wp.jn fun j18 h18 => .bnd b1 (.bnd b2 (.bnd (decI6 x) (Wp.newE fun H1 e1 k1 n1 g1 => Wp.stL g1 rfl rfl rfl (by decide) fun H2 c2 n2 g2 => ?_))))
  have k2 : Keeps H H2 := k1.keepsS c2 fun y hy => by subst hy; omega
  have gx : H2.get H.next = some (.cells (itC x) 57 true 0) := g2
  have T2 := T'.keeps k2
  have hrx : RisesT (addL F (xs.take i)) := addL_rises hr
  have hmx : MaxT (addL F (xs.take i)) (N + i) := by have := addL_max (xs := xs.take i) hm; rwa [List.length_take, Nat.min_eq_left (by omega)] at this
  have S2 := T2.slot _ hi256
  have hln := hmx _ hi256
  have nx : addL F (xs.take (i + 1)) = addF (addL F (xs.take i)) x := by
   rw [show xs.take (i + 1) = xs.take i ++ [x] by rw [List.take_add_one, hx]; rfl]
   unfold addL; rw [List.foldl_append]; rfl
  have next : ∀ (H' : AHeap) (sl2 : Nat → Slc), Tab base H' tb sl2 (addL F (xs.take (i + 1))) → Chg (TOwn tb sl) h H' → (∀ y, TOwn tb sl2 y → h.next ≤ y ∨ TOwn tb sl y) → Gx.Wp (j18 (some ⟨tb, 0, none⟩) s (s.len : Int) (i : Int) H') Q := fun H' sl2 t1 t2 t3 => by
   rw [h18]
   dsimp only
   rw [Gx.w1 (by omega)]
   exact ih (i + 1) H' sl2 (by omega) t1 t2 t3
  refine .bnd (show ldS ⟨H.next, 0, none⟩ H2 = some x.1 by simp [ldS, AHeap.rd1, gx, itC, decS]) (.bnd (list_spec k _ tb x.1 H2) (.bnd rfl (.bnd (sldL_at T2.blk (tabC_get _ hi256)) (.bnd (sldA_at gx rfl) (.bnd (decI6 x) ?_)))))
  refine .call (search_spec hk (by omega) S2.row (by omega) x (posI_le x _) (fun i2 y hi2 hy => by have := pos_ahead hi2 hy; simpa [lessI] using this) (fun i2 y hi2 hy => by have := pos_behind (hrx _ hi256) hi2 hy; simpa [lessI] using this)) fun r30 ⟨q1, q2, k3⟩ => ?_
  rw [pos_found (hrx _ hi256)] at q2
  have k3' := k2.trans k3
  have T3 := T2.keeps k3
  have gx3 := k3.got (by omega) gx
  by_cases hin : x ∈ addL F (xs.take i) (idx x.1)
  ·have : r30.1.2 = true := q2.2 hin
   refine .ifn (by simp [this]) (next r30.2 sl' ?_ (Chg.beh c k3' fun y _ f => f.elim) ho)
   rw [nx]
   refine T3.ext fun l hl => ?_
   unfold addF upd
   split
   ·rename_i e; rw [e]; unfold putI; rw [if_pos hin]
   ·rfl
  ·have : r30.1.2 = false := by cases e : r30.1.2; rfl; exact absurd (q2.1 e) hin
   refine .ifp (by simp [this]) (.bnd (sldA_at gx3 rfl) (.bnd (decI6 x) (Wp.newE fun H4 e4 k4 n4 g4 => ?_)))
   have T4 := T3.keeps k4
   have gx4 : H4.get r30.2.next = some (.cells (itC x) 57 true 0) := g4
   have l4 := sldL_at (sp := none) T4.blk (tabC_get _ hi256)
   have l3 := sldL_at (sp := none) T3.blk (tabC_get _ hi256)
   have n3 := k3'.nx
   refine .bnd rfl (.bnd l4 (.gp (ssw1 (by rw [l3]; rfl)) ?_))
   have S4 := T4.slot _ hi256
   obtain ⟨s', h5, a1, A5, c5, d5⟩ := ins_spec k (DD k) S4 (by omega) T4.lt x (posI_le x _) (by omega) gx4 (by omega) (fun a ha => by have := ((T3.slot _ hi256).own a ha).2.1; omega)
   rw [q1]
   refine .bnd a1 (.bnd rfl ?_)
   obtain ⟨h6, a6, T6, c6, o6⟩ := T4.slotT hi256 c5 A5 d5
   refine .bnd a6 (next h6 (upd sl' (idx x.1) s') ?_ ?_ ?_)
   ·rw [nx]
    refine T6.ext fun l hl => ?_
    unfold addF upd
    split
    ·unfold putI; rw [if_neg hin, take_pos, drop_pos]
    ·rfl
   ·refine Chg.beh c (Chg.trans (S := TOwn tb sl') ((k3'.trans k4).keeps) c6) fun y hy z => ?_
    rcases ho y z with h1 | h1
    ·omega
    ·exact h1
   ·intro y hy
    rcases o6 y hy with h1 | h1
    ·have := k4.nx; left; omega
    ·exact ho y h1
theorem add_spec (hk : 100 ≤ k) (R : RowW 6 itC h s xs) {N : Nat} (hN : N + xs.length ≤ 1000000000) (hkN : N + xs.length + 10 ≤ k) (hs : ∀ a, s.a = some a → ¬ TOwn tb sl a.block) (hb : base ≤ h.next) (T : Tab base h tb sl F) (hr : RisesT F) (hm : MaxT F N) (hok : ∀ x ∈ xs, okI x) :
  Gx.Wp (lookup_Table_Add k (DD k) (some ⟨tb, 0, none⟩) s h) fun z => z.1 = 0 ∧ ∃ sl', Tab base z.2 tb sl' (addL F xs) ∧ Chg (TOwn tb sl) h z.2 ∧ ∀ y, TOwn tb sl' y → h.next ≤ y ∨ TOwn tb sl y := by
 simp only [lookup_Table_Add]
 refine Gx.Wp.jn fun j4 h4 => ?_
 unfold lookup_Table_Add_l1
 obtain ⟨bot, eb⟩ := iterK_of (fun _ _ _ _ _ _ => none) (lookup_Table_Add_l1b k (DD k) j4) (show xs.length + 1 ≤ k by omega)
 rw [eb]
 have loop : ∀ (d i : Nat) (H : AHeap), i + d = xs.length → Keeps h H → Gx.Wp (iterK bot (d + 1) (lookup_Table_Add_l1b k (DD k) j4) (some ⟨tb, 0, none⟩) s s (s.len : Int) (i : Int) H) fun z => z.1 = 0 ∧ ∃ sl', Tab base z.2 tb sl' (addL F xs) ∧ Chg (TOwn tb sl) h z.2 ∧ ∀ y, TOwn tb sl' y → h.next ≤ y ∨ TOwn tb sl y := fun d => by
  induction d with
  | zero =>
   intro i H hd kp
   obtain rfl : i = xs.length := by omega
   rw [iterK_s]; simp only [lookup_Table_Add_l1b]
   refine .ifn (by rw [R.len]; simp) ?_
   rw [h4]
   refine Gx.Wp.jn fun j6 h6 => ?_
   unfold lookup_Table_Add_l0
   obtain ⟨bot2, eb2⟩ := iterK_of (fun _ _ _ _ _ => none) (lookup_Table_Add_l0b k (DD k) j6) (show xs.length + 1 ≤ k by omega)
   rw [eb2]
   have nH := kp.nx
   exact add_l0 hk bot2 j6 (R.keeps kp) hN hkN hs (by omega) (fun H2 sl' t1 t2 t3 => by rw [h6]; exact .of ⟨rfl, sl', t1, Chg.trans kp.keeps t2, fun y hy => by rcases t3 y hy with q | q; left; omega; exact .inr q⟩) (T.keeps kp) hr hm xs.length 0 H sl (by omega) (T.keeps kp) (.refl _ _) (fun y hy => .inr hy)
  | succ d ih =>
   intro i H hd kp
   rw [iterK_s]; simp only [lookup_Table_Add_l1b]
   obtain ⟨x, hx⟩ := isome (l := xs) (i := i) (by omega)
   obtain ⟨q, b1, b2, _⟩ := (R.keeps kp).ld itC_len (by decide) hx
   refine .ifp (by rw [R.len]; simp; omega) (.bnd b1 (.bnd b2 (.bnd (decI6 x) (Wp.newE fun H1 e1 k1 n1 g1 => Wp.stL g1 rfl rfl rfl (by decide) fun H2 c2 n2 g2 => ?_))))
   have k2 : Keeps h H2 := kp.trans (k1.keepsS c2 fun y hy => by subst hy; omega)
   have gx : H2.get H.next = some (.cells (itC x) 57 true 0) := g2
   refine .bnd (sldA_at gx rfl) (.bnd (decI6 x) (.call (check_spec k _ x H2) fun r ⟨q1, q2⟩ => ?_))
   have h0 : r.1 = 0 := by rw [q1]; unfold chkI; rw [if_pos (hok x (mem_of hx))]
   refine .ifn (by simp [h0]) ?_
   rw [Gx.w1 (by omega)]
   exact ih (i + 1) r.2 (by omega) (k2.trans q2)
 exact loop xs.length 0 h (by omega) (.refl _ _)
end
end Gc
namespace Gc
open Go Gx
abbrev Pl := ByteArray × Int × Int × Int × Int
def plC (x : Pl) : List Value := [.string x.1, .int .i64 x.2.1, .int .i64 x.2.2.1, .int .i64 x.2.2.2.1, .int .i64 x.2.2.2.2]
theorem plC_len (x : Pl) : (plC x).length = 5 := rfl
theorem plC_one (x : Pl) : allOne (plC x) = true := rfl
theorem decP5 (x : Pl) : decC [.s, .i .i64, .i .i64, .i .i64, .i .i64] (plC x) = some x := rfl
def noPl : Pl := (⟨#[]⟩, 0, 0, 0, 0)
def posId (id : ByteArray) (xs : List It) : Nat := (xs.takeWhile fun y => decide (bl y.1 < bl id)).length
theorem less_ids {x y : It} (h : lessI x y = true) : bl x.1 < bl y.1 ∨ x.1 = y.1 := by
 rw [lessI_iff] at h
 rcases h with h | ⟨h, _⟩
 ·exact .inl h
 ·exact .inr h
theorem posId_ahead {id : ByteArray} : ∀ {xs : List It} {i : Nat} {y : It}, i < posId id xs → xs[i]? = some y → bl y.1 < bl id
 | [], i, y, h, _ => by simp [posId] at h
 | z :: xs, i, y, h, hy => by
  unfold posId at h
  by_cases c : bl z.1 < bl id
  ·simp only [List.takeWhile_cons, c, decide_true, if_true, List.length_cons] at h
   cases i with
   | zero => simp at hy; subst hy; exact c
   | succ i => exact posId_ahead (xs := xs) (i := i) (by unfold posId; omega) (by simpa using hy)
  ·simp [c] at h
theorem posId_behind {id : ByteArray} : ∀ {xs : List It} {i : Nat} {y : It}, Rises xs → posId id xs ≤ i → xs[i]? = some y → ¬ bl y.1 < bl id
 | [], i, y, _, _, hy => by simp at hy
 | z :: xs, i, y, hr, h, hy => by
  unfold posId at h
  unfold Rises at hr
  rw [List.pairwise_cons] at hr
  by_cases c : bl z.1 < bl id
  ·simp only [List.takeWhile_cons, c, decide_true, if_true, List.length_cons] at h
   cases i with
   | zero => omega
   | succ i => exact posId_behind (xs := xs) (i := i) hr.2 (by unfold posId; omega) (by simpa using hy)
  ·cases i with
   | zero => simp at hy; subst hy; exact c
   | succ i =>
    rcases less_ids (hr.1 y (List.mem_of_getElem? (by simpa using hy))) with g | g
    ·exact fun d => c (List.lt_trans g d)
    ·rw [← g]; exact c
theorem posId_le (id : ByteArray) (xs : List It) : posId id xs ≤ xs.length := (List.takeWhile_sublist _).length_le
theorem run_eq (id : ByteArray) : ∀ {xs : List It}, Rises xs → (xs.drop (posId id xs)).takeWhile (fun y => decide (y.1 = id)) = xs.filter fun y => decide (y.1 = id)
 | [], _ => rfl
 | z :: xs, hr => by
  have hr' := hr
  unfold Rises at hr'
  rw [List.pairwise_cons] at hr'
  have ih := run_eq id (xs := xs) hr'.2
  by_cases c : bl z.1 < bl id
  ·have hne : ¬ z.1 = id := fun e => by rw [e] at c; exact List.lt_irrefl _ c
   have e : posId id (z :: xs) = posId id xs + 1 := by simp [posId, c]
   rw [e, List.drop_succ_cons, ih]
   simp [hne]
  ·have e : posId id (z :: xs) = 0 := by simp [posId, c]
   rw [e, List.drop_zero]
   by_cases d : z.1 = id
   ·have e0 : posId id xs = 0 := by
     cases xs with
     | nil => rfl
     | cons y ys =>
      have := posId_behind (id := id) hr (i := 1) (y := y) (by omega) rfl
      simp [posId, this]
    rw [e0, List.drop_zero] at ih
    simp [d, ih]
   ·have hall : ∀ y ∈ xs, ¬ y.1 = id := fun y hy e2 => by
     have hgt : bl id < bl z.1 := by
      rcases ltB_total id z.1 with g | g | g
      ·exact g
      ·exact absurd g.symm d
      ·exact absurd g c
     rcases less_ids (hr'.1 y hy) with g | g
     ·rw [e2] at g; exact List.lt_irrefl _ (List.lt_trans hgt g)
     ·exact d (g.trans e2)
    have : (xs.filter fun y => decide (y.1 = id)) = [] := List.filter_eq_nil_iff.2 fun y hy => by simpa using hall y hy
    simp [d, this]
def placesL (xs : List It) (id : ByteArray) : List Pl := (xs.filter fun y => decide (y.1 = id)).map (·.2)
section
variable {k base tb : Nat} {h : AHeap} {sl : Nat → Slc} {F : Nat → List It} {s : Slc} {xs : List It}
theorem places_l0 (_hkx : xs.length + 10 ≤ k) (R : RowW 6 itC h s xs) (hl : xs.length ≤ 1000000000) (hr : Rises xs) (id : ByteArray) (j) (hj : j = fun (out5 : Slc) (h6 : AHeap) => some (out5, h6)) (bot) :
  ∀ (d i : Nat) (out : Slc) (H : AHeap), i + d = xs.length → Keeps h H → posId id xs ≤ i → AccW 5 plC 55 h.next H out (((xs.drop (posId id xs)).take (i - posId id xs)).map (·.2)) → (∀ t y, posId id xs ≤ t → t < i → xs[t]? = some y → y.1 = id) →
   Gx.Wp (iterK bot (d + 1) (lookup_Table_Places_l0b k (DD k) j) id out s (i : Int) H) fun z => AccW 5 plC 55 h.next z.2 z.1 (placesL xs id) ∧ Keeps h z.2 := by
 have stop : ∀ (i : Nat), posId id xs ≤ i → i ≤ xs.length → (∀ t y, posId id xs ≤ t → t < i → xs[t]? = some y → y.1 = id) → (∀ y, xs[i]? = some y → ¬ y.1 = id) → ((xs.drop (posId id xs)).take (i - posId id xs)).map (·.2) = placesL xs id := by
  intro i h1 h2 h3 h4
  unfold placesL
  rw [← run_eq id hr]
  congr 1
  have e := (List.take_append_drop (i - posId id xs) (xs.drop (posId id xs))).symm
  rw [List.drop_drop, show posId id xs + (i - posId id xs) = i by omega] at e
  have ha : ∀ y ∈ (xs.drop (posId id xs)).take (i - posId id xs), decide (y.1 = id) = true := fun y hy => by
   obtain ⟨t, ht, e1⟩ := List.getElem_of_mem hy
   have h5 : ((xs.drop (posId id xs)).take (i - posId id xs))[t]? = some y := by rw [← e1]; exact List.getElem?_eq_getElem ht
   rw [List.getElem?_take] at h5
   split at h5
   ·rw [List.getElem?_drop] at h5
    exact decide_eq_true (h3 _ y (Nat.le_add_right _ _) (by omega) h5)
   ·cases h5
  have hd : (xs.drop i).takeWhile (fun y => decide (y.1 = id)) = [] := by
   cases hxd : xs.drop i with
   | nil => rfl
   | cons y ys =>
    have : xs[i]? = some y := by
     have := congrArg (·[0]?) hxd
     simpa [List.getElem?_drop] using this
    simp [h4 y this]
  have e3 := congrArg (List.takeWhile fun y => decide (y.1 = id)) e
  rw [List.takeWhile_append_of_pos ha, hd, List.append_nil] at e3
  exact e3.symm
 intro d
 induction d with
 | zero =>
  intro i out H hd kp hp A hall
  obtain rfl : i = xs.length := by omega
  rw [iterK_s]; simp only [lookup_Table_Places_l0b]
  refine Gx.Wp.jn fun j20 h20 => .ifn (by rw [R.len]; simp) ?_
  rw [h20]
  refine .ifn (by decide) ?_
  rw [hj]
  rw [stop xs.length hp (Nat.le_refl _) hall (fun y hy => by simp at hy)] at A
  exact .of ⟨A, kp⟩
 | succ d ih =>
  intro i out H hd kp hp A hall
  rw [iterK_s]; simp only [lookup_Table_Places_l0b]
  obtain ⟨x, hx⟩ := isome (l := xs) (i := i) (by omega)
  obtain ⟨q, b1, b2, b3, b4⟩ := (R.keeps kp).ld itC_len (by decide) hx
  refine Gx.Wp.jn fun j20 h20 => .ifp (by rw [R.len]; simp; omega) (.bnd b1 (.bnd (b4 0 x.1 rfl) ?_))
  rw [h20, beq_ba]
  by_cases c : x.1 = id
  ·refine .ifp (by simp [c]) (.bnd b1 (.bnd (?_ : ldA 5 ⟨q.block, q.off + 1, none⟩ H = some (plC x.2)) (.bnd (decP5 x.2) (Wp.newE fun H1 e1 k1 n1 g1 => ?_))))
   ·have h6 := b2
    simp only [ldA] at h6 ⊢
    obtain ⟨cc, e, r, fz, g1, g2, g3⟩ := rdL_some h6 (by decide)
    rw [rdL_ok g1 (by omega)]
    congr 1
    have : (cc.drop (q.off + 1)).take 5 = ((cc.drop q.off).take 6).drop 1 := by rw [List.drop_take, List.drop_drop]
    rw [this, ← g3]; rfl
   ·have hlen : (((xs.drop (posId id xs)).take (i - posId id xs)).map (·.2)).length ≤ xs.length := by rw [List.length_map, List.length_take, List.length_drop]; omega
    obtain ⟨s', h', a1, A', c1, d1⟩ := A.push plC_len plC_one x.2 (bytes := 48) (by decide) (by omega) kp.nx
    have eH : H1 = H.new (.cells (plC x.2) 55 true 0) := e1
    rw [eH]
    refine .bnd (rdS_oneW plC_len x.2 55) (.bnd a1 ?_)
    rw [Gx.w1 (by omega)]
    refine ih (i + 1) s' h' (by omega) (Chg.beh kp c1 fun y hy ⟨a, ha, e⟩ => by have := (A.lt a ha).2; omega) (by omega) ?_ (fun t y h1 h2 h3 => ?_)
    ·have e2 : (xs.drop (posId id xs)).take (i + 1 - posId id xs) = (xs.drop (posId id xs)).take (i - posId id xs) ++ [x] := by
      rw [show i + 1 - posId id xs = (i - posId id xs) + 1 by omega, List.take_add_one, List.getElem?_drop, show posId id xs + (i - posId id xs) = i by omega, hx]; rfl
     rw [e2, List.map_append]
     exact A'
    ·by_cases e : t = i
     ·subst e; rw [hx] at h3; cases h3; exact c
     ·exact hall t y h1 (by omega) h3
  ·refine .ifn (by simp [c]) ?_
   rw [hj]
   rw [stop i hp (by omega) hall (fun y hy => by rw [hx] at hy; cases hy; exact c)] at A
   exact .of ⟨A, kp⟩
theorem places_spec (T : Tab base h tb sl F) (hr : RisesT F) {N : Nat} (hm : MaxT F N) (hN : N ≤ 1000000000) (hkN : N + 20 ≤ k) (id : ByteArray) :
  Gx.Wp (lookup_Table_Places k (DD k) (some ⟨tb, 0, none⟩) id h) fun z => AccW 5 plC 55 h.next z.2 z.1 (placesL (F (idx id)) id) ∧ Keeps h z.2 := by
 simp only [lookup_Table_Places]
 have hi := idx_lt id
 have hl := hm _ hi
 have S := T.slot _ hi
 refine .bnd (list_spec k _ tb id h) (.bnd rfl (.bnd (sldL_at T.blk (tabC_get _ hi)) (.call (searchId_spec (by omega) S.row (by omega) id (posId_le id _) (fun i y h1 h2 => cmpB_neg.2 (posId_ahead h1 h2)) (fun i y h1 h2 => fun q => posId_behind (hr _ hi) h1 h2 (cmpB_neg.1 q))) fun r ⟨q1, q2⟩ => Gx.Wp.jn fun j7 h7 => ?_)))
 rw [q1]
 unfold lookup_Table_Places_l0
 obtain ⟨bot, eb⟩ := iterK_of (fun _ _ _ _ _ => none) (lookup_Table_Places_l0b k (DD k) j7) (show ((F (idx id)).length - posId id (F (idx id))) + 1 ≤ k by omega)
 rw [eb]
 have := places_l0 (k := k) (by omega) (S.row.keeps q2) (by omega) (hr _ hi) id j7 h7 bot ((F (idx id)).length - posId id (F (idx id))) (posId id (F (idx id))) ⟨none, 0, 0⟩ r.2 (by have := posId_le id (F (idx id)); omega) (.refl _ _) (Nat.le_refl _) (by rw [Nat.sub_self]; exact ⟨.inl ⟨rfl, rfl⟩, fun a ha => by cases ha⟩) (fun t y a b => by omega)
 refine this.mono fun z ⟨z1, z2⟩ => ⟨⟨z1.st, fun a ha => ⟨(z1.lt a ha).1, Nat.le_trans q2.nx (z1.lt a ha).2⟩⟩, q2.trans z2⟩
def getL (xs : List It) (id : ByteArray) : Pl × Bool := match placesL xs id with
 | [] => (noPl, false)
 | p :: _ => (p, true)
theorem get_spec (T : Tab base h tb sl F) (hr : RisesT F) {N : Nat} (hm : MaxT F N) (hN : N ≤ 1000000000) (hkN : N + 20 ≤ k) (id : ByteArray) :
  Gx.Wp (lookup_Table_Get k (DD k) (some ⟨tb, 0, none⟩) id h) fun z => z.1 = getL (F (idx id)) id ∧ Keeps h z.2 := by
 simp only [lookup_Table_Get]
 refine Wp.newE fun H1 e1 k1 n1 g1 => .call (places_spec (T.keeps k1) hr hm hN hkN id) fun r ⟨A, k2⟩ => ?_
 have g2 := k2.got (by omega) g1
 have n2 := k2.nx
 have hrow : RowW 5 plC r.2 r.1 (placesL (F (idx id)) id) := by
  rcases A.st with ⟨e1, e2⟩ | ⟨b, e1, e2, e3⟩
  ·rw [e1, e2]; exact RowW.nil _ _ _ _ _
  ·have := rowW_blk (w := 5) (enc := plC) plC_len (n := (placesL (F (idx id)) id).length) (cap := (placesL (F (idx id)) id).length) (sp := some 6) e2 (A.lt ⟨b, 0, some 6⟩ (by rw [e1])).1 (Nat.le_refl _)
   rw [List.take_length] at this
   rw [e1]; exact this
 cases hp : placesL (F (idx id)) id with
 | nil =>
  rw [hp] at hrow
  refine .ifp (by rw [hrow.len]; rfl) (Wp.stL g2 rfl rfl rfl (by decide) fun H3 c3 n3 g3 => .bnd (sldA_at g3 rfl) (.bnd (decP5 noPl) (.of ⟨by unfold getL; rw [hp], ?_⟩)))
  exact (k1.trans k2).keepsS c3 fun y hy => by subst hy; omega
 | cons p l =>
  rw [hp] at hrow
  obtain ⟨q, b1, b2, _⟩ := hrow.ld plC_len (by decide) (i := 0) (x := p) rfl
  refine .ifn (by rw [hrow.len]; simp; omega) (.bnd b1 (.bnd b2 (.bnd (decP5 p) (Wp.stL g2 rfl rfl rfl (by decide) fun H3 c3 n3 g3 => .bnd (sldA_at g3 rfl) (.bnd (decP5 p) (.of ⟨by unfold getL; rw [hp], ?_⟩))))))
  exact (k1.trans k2).keepsS c3 fun y hy => by subst hy; omega
end
end Gc
namespace Gc
open Go Gx
theorem dd_drop {R : Type} {Q : R → Prop} {k : Nat} {x : It} {pb : Nat} {p : ByteArray} {h : AHeap} {κ : Value → AHeap → Option R} {C : CallF} (hC : C R 87 = DD k R 87) (hp : h.get pb = some (.cells [.string p] 9 true 0)) (hl : pb < h.next)
  (kt : ∀ h', Keeps h h' → Gx.Wp (κ (.bool (decide (x.2.1 = p))) h') Q) :
  Gx.Wp (callD C (.func (.func 87) ⟨[]⟩ ⟨[.pointer (some ⟨pb, 0, none⟩)]⟩) [.agg ⟨itC x⟩] h κ) Q := by
 show Gx.Wp (C R 87 [.agg ⟨itC x⟩, .pointer (some ⟨pb, 0, none⟩)] h κ) Q
 rw [hC]
 show Gx.Wp ((lookup_Table_Drop_1 k noC x (some ⟨pb, 0, none⟩) h).bind fun r => κ (.bool r.1) r.2) Q
 simp only [lookup_Table_Drop_1]
 refine .call (P := fun r => r.1 = decide (x.2.1 = p) ∧ Keeps h r.2) (Wp.newE fun H1 e1 k1 n1 g1 => ?_) fun r ⟨q1, q2⟩ => by rw [q1]; exact kt _ q2
 have g2 := k1.got hl hp
 exact .bnd (show ldS ⟨h.next, 1, none⟩ H1 = some x.2.1 by simp [ldS, AHeap.rd1, g1, decS]) (.bnd rfl (.bnd (show ldS ⟨pb, 0, none⟩ H1 = some p by simp [ldS, AHeap.rd1, g2, decS]) (.of ⟨beq_ba _ _, k1⟩)))
def inP (p : ByteArray) (y : It) : Bool := decide (y.2.1 = p)
def outP (p : ByteArray) (y : It) : Bool := !inP p y
def noI : List Value := [.string ⟨#[]⟩, .string ⟨#[]⟩, .int .i64 0, .int .i64 0, .int .i64 0, .int .i64 0]
section
variable {k base tb : Nat} {h : AHeap} {s : Slc} {xs : List It} {pb : Nat} {p : ByteArray}
abbrev delV (pb : Nat) : Value := .func (.func 87) ⟨[]⟩ ⟨[.pointer (some ⟨pb, 0, none⟩)]⟩
theorem index_spec (hkx : xs.length + 10 ≤ k) (R : RowW 6 itC h s xs) (hl : xs.length ≤ 1000000000) (hp : h.get pb = some (.cells [.string p] 9 true 0)) (hpl : pb < h.next) :
  Gx.Wp (slices_IndexFunc_api_Item_api_Item k (DD k) s (delV pb) h) fun z => Keeps h z.2 ∧ ((z.1 = -1 ∧ ∀ y ∈ xs, inP p y = false) ∨ ∃ (i : Nat) (x : It), z.1 = (i : Int) ∧ xs[i]? = some x ∧ inP p x = true ∧ ∀ (t : Nat) (y : It), t < i → xs[t]? = some y → inP p y = false) := by
 simp only [slices_IndexFunc_api_Item_api_Item]
 refine Gx.Wp.jn fun j2 h2 => ?_
 unfold slices_IndexFunc_api_Item_api_Item_l0
 obtain ⟨bot, eb⟩ := iterK_of (fun _ _ _ _ _ => none) (slices_IndexFunc_api_Item_api_Item_l0b k (DD k) j2) (show xs.length + 1 ≤ k by omega)
 rw [eb]
 have loop : ∀ (d i : Nat) (H : AHeap), i + d = xs.length → Keeps h H → (∀ t y, t < i → xs[t]? = some y → inP p y = false) → Gx.Wp (iterK bot (d + 1) (slices_IndexFunc_api_Item_api_Item_l0b k (DD k) j2) s (delV pb) (s.len : Int) (i : Int) H) fun z => Keeps h z.2 ∧ ((z.1 = -1 ∧ ∀ y ∈ xs, inP p y = false) ∨ ∃ (i : Nat) (x : It), z.1 = (i : Int) ∧ xs[i]? = some x ∧ inP p x = true ∧ ∀ (t : Nat) (y : It), t < i → xs[t]? = some y → inP p y = false) := fun d => by
  induction d with
  | zero =>
   intro i H hd kp hall
   obtain rfl : i = xs.length := by omega
   rw [iterK_s]; simp only [slices_IndexFunc_api_Item_api_Item_l0b]
   refine .ifn (by rw [R.len]; simp) ?_
   rw [h2]
   refine .of ⟨kp, .inl ⟨rfl, fun y hy => ?_⟩⟩
   obtain ⟨t, ht, e⟩ := List.getElem_of_mem hy
   exact hall t y ht (by rw [← e]; exact List.getElem?_eq_getElem ht)
  | succ d ih =>
   intro i H hd kp hall
   rw [iterK_s]; simp only [slices_IndexFunc_api_Item_api_Item_l0b]
   obtain ⟨x, hx⟩ := isome (l := xs) (i := i) (by omega)
   obtain ⟨q, b1, b2, _⟩ := (R.keeps kp).ld itC_len (by decide) hx
   refine .ifp (by rw [R.len]; simp; omega) (.bnd b1 (.bnd b2 (.bnd (decI6 x) (dd_drop (x := x) rfl (kp.got hpl hp) (Nat.lt_of_lt_of_le hpl kp.nx) fun h' k' => .bnd rfl ?_))))
   by_cases c : x.2.1 = p
   ·exact .ifp (by simp [c]) (.of ⟨kp.trans k', .inr ⟨i, x, rfl, hx, by simp [inP, c], hall⟩⟩)
   ·refine .ifn (by simp [c]) ?_
    rw [Gx.w1 (by omega)]
    refine ih (i + 1) h' (by omega) (kp.trans k') fun t y ht hy => ?_
    by_cases e : t = i
    ·subst e; rw [hx] at hy; cases hy; simp [inP, c]
    ·exact hall t y (by omega) hy
 exact loop xs.length 0 h (by omega) (.refl _ _) (fun t y ht => by omega)
theorem flat_set (ys : List It) (R : List Value) {i : Nat} (x : It) (hi : i < ys.length) : splice (ys.flatMap itC ++ R) (i * 6) (itC x) = (ys.set i x).flatMap itC ++ R := by
 have e : ys.set i x = ys.take i ++ x :: ys.drop (i + 1) := by rw [List.set_eq_take_append_cons_drop, if_pos hi]
 unfold splice
 rw [itC_len, e, List.take_append_of_le_length (by rw [flat_len]; omega), flat_take, show i * 6 + 6 = (i + 1) * 6 by omega]
 rw [List.drop_append_of_le_length (by rw [flat_len]; omega), flat_drop]
 simp
theorem delete_spec (hkx : xs.length + 10 ≤ k) (A : SlotR base h tb s xs) (hl : xs.length ≤ 1000000000) (hp : h.get pb = some (.cells [.string p] 9 true 0)) (hpl : pb < h.next) (hps : ∀ a, s.a = some a → a.block ≠ pb) :
  Gx.Wp (slices_DeleteFunc_api_Item_api_Item k (DD k) s (delV pb) h) fun z => SlotR base z.2 tb z.1 (xs.filter (outP p)) ∧ Chg (ofS s) h z.2 ∧ ∀ a, z.1.a = some a → ∃ b, s.a = some b ∧ b.block = a.block := by
 simp only [slices_DeleteFunc_api_Item_api_Item]
 refine .call (index_spec hkx A.row hl hp hpl) fun r ⟨k1, q⟩ => ?_
 rcases q with ⟨e1, hall⟩ | ⟨i0, x0, e1, hx0, hin0, hall⟩
 ·refine .ifp (by simp [e1]) (.of ⟨?_, k1.keeps, fun a ha => ⟨a, ha, rfl⟩⟩)
  have : xs.filter (outP p) = xs := List.filter_eq_self.2 fun y hy => by simp [outP, hall y hy]
  rw [this]; exact A.keeps k1
 ·refine .ifn (by simp [e1]) (Gx.Wp.jn fun j5 h5 => ?_)
  have hlt0 : i0 < xs.length := (List.getElem?_eq_some_iff.1 hx0).1
  rcases A.keeps k1 with ⟨_, rfl⟩ | ⟨b, sp, cap, RR, B⟩
  ·simp at hlt0
  have hs := B.s
  have hspok : spOk sp 6 = true := by rcases B.sp with ⟨rfl, _⟩ | ⟨rfl, _⟩ <;> rfl
  have hne : b ≠ pb := hps ⟨b, 0, sp⟩ (by rw [hs])
  have hofb : ∀ y, y = b → ofS s y := fun y e => ⟨⟨b, 0, sp⟩, by rw [hs], e⟩
  have fin : ∀ (H : AHeap) (ys : List It), Chg (ofS s) h H → H.get b = some (.cells (ys.flatMap itC ++ RR) 57 true 0) → ys.length = xs.length → ∀ i, i ≤ xs.length → ys.take i = xs.filter (outP p) →
    Gx.Wp (j5 s (i : Int) H) fun z => SlotR base z.2 tb z.1 (xs.filter (outP p)) ∧ Chg (ofS s) h z.2 ∧ ∀ a, z.1.a = some a → ∃ b, s.a = some b ∧ b.block = a.block := by
   intro H ys c g hyl i hi ht
   rw [h5]
   have hfl : (xs.filter (outP p)).length = i := by rw [← ht, List.length_take]; omega
   have e6 : ∃ t : Slc, Gx.subL 6 s (some (i : Int)) none none = some t ∧ t.len = xs.length - i ∧ ∃ o, t.a = some ⟨b, o, sp⟩ ∧ (i < xs.length → o = i * 6) := by
    rw [hs]
    simp only [Gx.subL, Option.getD_none, Option.getD_some, hspok, if_true]
    have hle := B.le
    refine ⟨⟨some ⟨b, if (cap : Int) = i then 0 else 0 + i * 6, sp⟩, xs.length - i, cap - i⟩, ?_, rfl, _, rfl, fun hlt => ?_⟩
    ·rw [if_pos (by omega)]
     have a1 : ((xs.length : Int) - i).toNat = xs.length - i := by omega
     have a2 : ((cap : Int) - i).toNat = cap - i := by omega
     rw [a1, a2]; simp
    ·rw [if_neg (by omega)]; simp
   obtain ⟨t, et, tl, o, ta, t9⟩ := e6
   have e8 : Gx.subL 6 s none (some (i : Int)) none = some ⟨some ⟨b, 0, sp⟩, i, cap⟩ := by rw [hs]; exact subL_hi hspok (by have := B.le; omega)
   refine .bnd et ?_
   obtain ⟨H2, e7, g7, c7, n7⟩ : ∃ H2, clrL noI t H = some H2 ∧ H2.get b = some (.cells ((xs.filter (outP p)).flatMap itC ++ (zerosL (xs.length - i) noI ++ RR)) 57 true 0) ∧ Chg (ofS s) H H2 ∧ H2.next = H.next := by
    have hzl : (zerosL (xs.length - i) noI).length = (xs.length - i) * 6 := by rw [zerosL_eq]; simp [List.length_flatten, noI]
    by_cases hlt : i < xs.length
    ·have ho := t9 hlt
     have hne0 : zerosL (xs.length - i) noI ≠ [] := fun e => by rw [e] at hzl; simp at hzl; omega
     have ho1 : allOne (zerosL (xs.length - i) noI) = true := by
      rw [allOne_mem]
      intro v hv
      rw [zerosL_eq] at hv
      obtain ⟨l, hl1, hl2⟩ := List.mem_flatten.1 hv
      rw [List.eq_of_mem_replicate hl1] at hl2
      exact allOne_mem.1 (show allOne noI = true from rfl) v hl2
     have hw := wrL_ok g (o := i * 6) (vs := zerosL (xs.length - i) noI) (by rw [List.length_append, flat_len, hzl]; omega) ho1 hne0
     refine ⟨_, by unfold clrL; rw [ta]; simp only [tl, ho]; exact hw, ?_, Chg.set (.inr (hofb b rfl)), rfl⟩
     simp only [AHeap.get_set, if_true]
     congr 2
     unfold splice
     rw [List.take_append_of_le_length (by rw [flat_len]; omega), flat_take, ht, hzl, show i * 6 + (xs.length - i) * 6 = (ys.flatMap itC).length by rw [flat_len]; omega, List.drop_left, List.append_assoc]
    ·have hi' : i = xs.length := by omega
     have e0 : zerosL (xs.length - i) noI = [] := by rw [zerosL_eq, hi']; simp
     refine ⟨H, by unfold clrL; rw [ta, tl]; rw [e0]; rfl, ?_, .refl _ _, rfl⟩
     rw [e0, g, ← ht, List.take_of_length_le (by omega)]; rfl
   refine .bnd (show clrL [.string ⟨#[]⟩, .string ⟨#[]⟩, .int .i64 0, .int .i64 0, .int .i64 0, .int .i64 0] t H = some H2 from e7) (.bnd e8 (.of ⟨.inr ⟨b, sp, cap, zerosL (xs.length - i) noI ++ RR, by rw [hfl], g7, ?_, B.ge, ?_, B.ne, by rw [hfl]; have := B.le; omega, ?_, B.sp⟩, c.trans c7, fun a ha => by cases ha; exact ⟨⟨b, 0, sp⟩, by rw [hs], rfl⟩⟩))
   ·rw [allOne_mem]
    intro v hv
    rcases List.mem_append.1 hv with hv | hv
    ·rw [zerosL_eq] at hv
     obtain ⟨l, hl1, hl2⟩ := List.mem_flatten.1 hv
     rw [List.eq_of_mem_replicate hl1] at hl2
     exact allOne_mem.1 (show allOne noI = true from rfl) v hl2
    ·exact allOne_mem.1 B.one v hv
   ·have hb0 : b < h.next := ((A.own ⟨b, 0, sp⟩ (by rw [hs]))).2.1
    have := c.nx
    show b < H2.next
    rw [n7]; omega
   ·have hzl : (zerosL (xs.length - i) noI).length = (xs.length - i) * 6 := by rw [zerosL_eq]; simp [List.length_flatten, noI]
    have := B.room
    rw [hfl, List.length_append, hzl]; omega
  rw [e1, Gx.w1 (by omega)]
  unfold slices_DeleteFunc_api_Item_api_Item_l0
  obtain ⟨bot, eb⟩ := iterK_of (fun _ _ _ _ _ => none) (slices_DeleteFunc_api_Item_api_Item_l0b k (DD k) j5) (show (xs.length - (i0 + 1)) + 1 ≤ k by omega)
  rw [eb]
  have loop : ∀ (d i j : Nat) (H : AHeap) (ys : List It), j + d = xs.length → i < j → Chg (ofS s) h H → H.get b = some (.cells (ys.flatMap itC ++ RR) 57 true 0) → ys.length = xs.length → ys.take i = (xs.take j).filter (outP p) → ys.drop j = xs.drop j → H.get pb = some (.cells [.string p] 9 true 0) →
    Gx.Wp (iterK bot (d + 1) (slices_DeleteFunc_api_Item_api_Item_l0b k (DD k) j5) s (delV pb) (i : Int) (j : Int) H) fun z => SlotR base z.2 tb z.1 (xs.filter (outP p)) ∧ Chg (ofS s) h z.2 ∧ ∀ a, z.1.a = some a → ∃ b, s.a = some b ∧ b.block = a.block := fun d => by
   induction d with
   | zero =>
    intro i j H ys hd hij c g hyl ht _ _
    obtain rfl : j = xs.length := by omega
    rw [List.take_length] at ht
    rw [iterK_s]; simp only [slices_DeleteFunc_api_Item_api_Item_l0b]
    exact .ifn (by rw [hs]; simp) (fin H ys c g hyl i (by omega) ht)
   | succ d ih =>
    intro i j H ys hd hij c g hyl ht hdr gp
    rw [iterK_s]; simp only [slices_DeleteFunc_api_Item_api_Item_l0b]
    obtain ⟨x, hx⟩ := isome (l := xs) (i := j) (by omega)
    have hyx : ys[j]? = some x := by
     have := congrArg (·[0]?) hdr
     simp only [List.getElem?_drop, Nat.add_zero] at this
     rw [this]; exact hx
    have nH := c.nx
    have hb0 : b < h.next := ((A.own ⟨b, 0, sp⟩ (by rw [hs]))).2.1
    have RH : RowW 6 itC H s ys := by
     rw [hs]
     exact ⟨hyl.symm, fun t y hy => ⟨_, _, _, _, _, rfl, by show b < H.next; omega, g, fun m v hv => by rw [Nat.zero_add]; exact flat_get hy m v hv⟩⟩
    obtain ⟨q, b1, b2, _⟩ := RH.ld itC_len (by decide) hyx
    have hbn : ¬ b = H.next := by omega
    refine .ifp (by rw [hs]; simp; omega) (Gx.Wp.jn fun j20 h20 => .bnd b1 (.bnd b2 (.bnd (decI6 x) (Wp.newE fun H1 e3 k3 n3 g3 => Wp.stL g3 rfl rfl rfl (by decide) fun H2 c4 n4 g4 => ?_))))
    have k4 : Keeps H H2 := k3.keepsS c4 fun y hy => by subst hy; omega
    have gx : H2.get H.next = some (.cells (itC x) 57 true 0) := g4
    have hplH : pb < H.next := by omega
    refine .bnd (sldA_at gx rfl) (.bnd (decI6 x) (dd_drop (x := x) rfl (k4.got hplH gp) (by have := k4.nx; omega) fun H3 k5 => .bnd rfl ?_))
    have k45 : Keeps H H3 := k4.trans k5
    have c5 : Chg (ofS s) h H3 := Chg.beh c k45 fun y _ f => f.elim
    have g5 := k45.got (by omega) g
    have gp5 := k45.got hplH gp
    have nx : xs.take (j + 1) = xs.take j ++ [x] := by rw [List.take_add_one, hx]; rfl
    have hdr' : ∀ {zs : List It}, zs.drop j = xs.drop j → zs.drop (j + 1) = xs.drop (j + 1) := fun {zs} e => by
     rw [← List.drop_drop, e, List.drop_drop]
    by_cases cc : x.2.1 = p
    ·refine .ifn (by simp [cc]) ?_
     rw [h20]
     dsimp only
     rw [Gx.w1 (by omega)]
     exact ih i (j + 1) H3 ys (by omega) (by omega) c5 g5 hyl (by rw [nx, List.filter_append, ← ht]; simp [outP, inP, cc]) (hdr' hdr) gp5
    ·have gx5 := k5.got (by have := k4.nx; omega) gx
     refine .ifp (by simp [cc]) (.bnd (sldA_at gx5 rfl) (.bnd (decI6 x) ?_))
     have eq : Gx.idxL 6 s (i : Int) = some ⟨b, i * 6, none⟩ := by
      rw [hs]
      simp only [Gx.idxL]
      rw [if_pos (by omega)]
      simp
     have hw : stL 6 ⟨b, i * 6, none⟩ (itC x) H3 = some (H3.set b (.cells ((ys.set i x).flatMap itC ++ RR) 57 true 0)) := by
      unfold stL
      rw [show Nat.beq (itC x).length 6 = true from rfl, cond_true, ← flat_set ys RR x (by omega)]
      exact wrL_ok (o := i * 6) g5 (by rw [List.length_append, flat_len, itC_len]; omega) rfl (by simp [itC])
     refine .bnd eq (.bnd hw ?_)
     rw [h20]
     dsimp only
     rw [Gx.w1 (by omega), Gx.w1 (by omega)]
     refine ih (i + 1) (j + 1) _ (ys.set i x) (by omega) (by omega) (c5.trans (Chg.set (.inr (hofb b rfl)))) (by simp) (by simp [hyl]) ?_ (hdr' ?_) ?_
     ·rw [nx, List.filter_append, ← ht]
      have e1 : (ys.set i x).take (i + 1) = ys.take i ++ [x] := by
       rw [List.take_add_one, List.take_set_of_le (Nat.le_refl _), List.getElem?_set_self (by omega)]; rfl
      rw [e1]; simp [outP, inP, cc]
     ·rw [List.drop_set_of_lt (by omega)]; exact hdr
     ·simp only [AHeap.get_set]
      rw [if_neg (fun e => hne e.symm)]; exact gp5
  have hpre : (xs.take (i0 + 1)).filter (outP p) = xs.take i0 := by
   rw [List.take_add_one, hx0, List.filter_append]
   have e1 : (xs.take i0).filter (outP p) = xs.take i0 := List.filter_eq_self.2 fun y hy => by
    obtain ⟨t, ht, e⟩ := List.getElem_of_mem hy
    have h6 : (xs.take i0)[t]? = some y := by rw [← e]; exact List.getElem?_eq_getElem ht
    rw [List.getElem?_take] at h6
    split at h6
    ·rename_i hlt; simp [outP, hall t y hlt h6]
    ·cases h6
   rw [e1]; simp [outP, hin0]
  exact loop (xs.length - (i0 + 1)) i0 (i0 + 1) r.2 xs (by omega) (by omega) k1.keeps B.blk rfl hpre.symm rfl (k1.got hpl hp)
end
end Gc
namespace Gc
open Go Gx
def dropF (F : Nat → List It) (p : ByteArray) : Nat → List It := fun i => (F i).filter (outP p)
def cntTo (F : Nat → List It) (n : Nat) : Nat := ((List.range n).map fun i => (F i).length).sum
theorem cntTo_s (F : Nat → List It) (n : Nat) : cntTo F (n + 1) = cntTo F n + (F n).length := by simp [cntTo, List.range_succ]
theorem filter_rises {xs : List It} (hr : Rises xs) (q : It → Bool) : Rises (xs.filter q) := List.Pairwise.sublist List.filter_sublist hr
theorem dropF_rises {F : Nat → List It} (hr : RisesT F) (p : ByteArray) : RisesT (dropF F p) := fun i hi => filter_rises (hr i hi) _
theorem dropF_max {F : Nat → List It} {n : Nat} (hm : MaxT F n) (p : ByteArray) : MaxT (dropF F p) n := fun i hi => Nat.le_trans (List.length_filter_le _ _) (hm i hi)
theorem cntTo_le {F : Nat → List It} {n : Nat} (hm : MaxT F n) : ∀ i, i ≤ 256 → cntTo F i ≤ i * n
 | 0, _ => by simp [cntTo]
 | i + 1, h => by
  have := cntTo_le hm i (by omega)
  have := hm i (by omega)
  rw [cntTo_s, Nat.succ_mul]; omega
theorem drop_cnt (F : Nat → List It) (p : ByteArray) : ∀ i, cntTo (dropF F p) i ≤ cntTo F i
 | 0 => Nat.le_refl _
 | i + 1 => by
  rw [cntTo_s, cntTo_s]
  have := drop_cnt F p i
  have : (dropF F p i).length ≤ (F i).length := List.length_filter_le _ _
  omega
section
variable {k base tb : Nat} {h : AHeap} {sl : Nat → Slc} {F : Nat → List It}
theorem decA_tab (sl : Nat → Slc) : decA 256 (.agg ⟨tabC sl⟩) = some (tabC sl) := by
 show (bif Nat.beq (tabC sl).length 256 then some (tabC sl) else none) = _
 rw [tabC_len]; rfl
theorem tab_all (T : Tab base h tb sl F) : ldA 256 ⟨tb, 0 + 0, none⟩ h = some (tabC sl) := sldA_at T.blk (tabC_len sl)
theorem drop_spec (hk : 300 ≤ k) (T : Tab base h tb sl F) {N : Nat} (hm : MaxT F N) (hN : N ≤ 1000000000) (hkN : N + 20 ≤ k) (p : ByteArray) :
  Gx.Wp (lookup_Table_Drop k (DD k) (some ⟨tb, 0, none⟩) p h) fun z => z.1 = ((cntTo F 256 - cntTo (dropF F p) 256 : Nat) : Int) ∧ ∃ sl', Tab base z.2 tb sl' (dropF F p) ∧ Chg (TOwn tb sl) h z.2 ∧ ∀ y, TOwn tb sl' y → h.next ≤ y ∨ TOwn tb sl y := by
 simp only [lookup_Table_Drop]
 refine Wp.newE fun H1 e1 k1 n1 g1 => Gx.Wp.jn fun j4 h4 => .bnd rfl (.bnd (tab_all (T.keeps k1)) (.bnd (decA_tab sl) ?_))
 unfold lookup_Table_Drop_l0
 obtain ⟨bot, eb⟩ := iterK_of (fun _ _ _ _ _ _ => none) (lookup_Table_Drop_l0b k (DD k) j4) (show 256 + 1 ≤ k by omega)
 rw [eb]
 have loop : ∀ (d i : Nat) (H : AHeap) (sl' : Nat → Slc), i + d = 256 → Chg (TOwn tb sl) H1 H → (∀ j, i ≤ j → sl' j = sl j) → Tab base H tb sl' (fun j => if j < i then dropF F p j else F j) → (∀ y, TOwn tb sl' y → TOwn tb sl y) →
   Gx.Wp (iterK bot (d + 1) (lookup_Table_Drop_l0b k (DD k) j4) (some ⟨tb, 0, none⟩) (some ⟨h.next, 0, none⟩) ((cntTo F i - cntTo (dropF F p) i : Nat) : Int) (tabC sl) (i : Int) H) fun z => z.1 = ((cntTo F 256 - cntTo (dropF F p) 256 : Nat) : Int) ∧ ∃ sl', Tab base z.2 tb sl' (dropF F p) ∧ Chg (TOwn tb sl) h z.2 ∧ ∀ y, TOwn tb sl' y → h.next ≤ y ∨ TOwn tb sl y := fun d => by
  induction d with
  | zero =>
   intro i H sl' hd c hsl T' ho
   obtain rfl : i = 256 := by omega
   rw [iterK_s]; simp only [lookup_Table_Drop_l0b]
   refine .ifn (by simp) ?_
   rw [h4]
   exact .of ⟨rfl, sl', T'.ext fun j hj => by rw [if_pos hj], Chg.trans k1.keeps c, fun y hy => .inr (ho y hy)⟩
  | succ d ih =>
   intro i H sl' hd c hsl T' ho
   rw [iterK_s]; simp only [lookup_Table_Drop_l0b]
   have hi : i < 256 := by omega
   have nH := c.nx
   have S := T'.slot i hi
   rw [hsl i (Nat.le_refl _)] at S
   simp only [Nat.lt_irrefl, if_false] at S
   have hlN := hm i hi
   have hplt : h.next < H.next := by omega
   have gp : H.get h.next = some (.cells [.string p] 9 true 0) := c.got (by omega) (fun q => by have := (T.own q).2; omega) g1
   have ci := cntTo_le hm i (by omega)
   have di := drop_cnt F p i
   refine .ifp (by simp; omega) (.ifp (by omega) (.bnd (show (tabC sl)[(i : Int).toNat * 1]? = some (.slice (sl i).a (sl i).len (sl i).cap) by rw [Int.toNat_natCast, Nat.mul_one, tabC_get _ hi]) (.bnd (show decL (.slice (sl i).a (sl i).len (sl i).cap) = some (sl i) from rfl) ?_)))
   refine .call (delete_spec (by omega) S (by omega) gp hplt (fun a ha => by have := ((T.slot i hi).own a ha).2.1; omega)) fun r ⟨A, c2, d2⟩ => ?_
   have eix : Gx.idxA 256 1 (⟨tb, 0 + 0, none⟩ : Addr) (i : Int) = some ⟨tb, i, none⟩ := by rw [sidxA0 hi]; simp
   rw [← hsl i (Nat.le_refl _)] at c2 d2
   obtain ⟨h3, a3, T3, c3, o3⟩ := T'.slotT hi c2 A (fun a ha => .inr (d2 a ha))
   have g3 := sldL_at (sp := none) T3.blk (tabC_get _ hi)
   refine .bnd rfl (.bnd eix (.bnd a3 (.bnd rfl (.bnd eix (.bnd g3 ?_)))))
   have e5 : upd sl' i r.1 i = r.1 := by simp [upd]
   have e6 : r.1.len = (dropF F p i).length := A.len
   have e7 : (sl i).len = (F i).length := (T.slot i hi).len
   have e8 : (dropF F p i).length ≤ (F i).length := List.length_filter_le _ _
   simp only [e5]
   have hbig : i * N ≤ 256 * 1000000000 := Nat.mul_le_mul (by omega) hN
   have ew : IntKind.wrap .i64 (((sl i).len : Int) - (r.1.len : Int)) = (((F i).length - (dropF F p i).length : Nat) : Int) := by rw [e6, e7, Gx.w64 _ (by omega)]; omega
   rw [ew, show IntKind.wrap .i64 (((cntTo F i - cntTo (dropF F p) i : Nat) : Int) + (((F i).length - (dropF F p i).length : Nat) : Int)) = ((cntTo F (i + 1) - cntTo (dropF F p) (i + 1) : Nat) : Int) by rw [Gx.w64 _ (by omega), cntTo_s, cntTo_s]; omega]
   refine .bnd (decA_tab sl) ?_
   rw [Gx.w1 (by omega)]
   refine ih (i + 1) h3 (upd sl' i r.1) (by omega) (Chg.trans c (c3.wk fun y _ z => ho y z)) (fun j hj => ?_) (T3.ext fun j hj => ?_) fun y hy => ?_
   ·unfold upd; rw [if_neg (by omega)]; exact hsl j (by omega)
   ·unfold upd
    by_cases e : j = i
    ·subst e; rw [if_pos rfl, if_pos (by omega)]; rfl
    ·rw [if_neg e]
     dsimp only
     by_cases e2 : j < i
     ·rw [if_pos e2, if_pos (by omega)]
     ·rw [if_neg e2, if_neg (by omega)]
   ·rcases hy with rfl | ⟨j, hj, a, ha, rfl⟩
    ·exact .inl rfl
    ·by_cases e : j = i
     ·rw [show upd sl' i r.1 j = r.1 by simp [upd, e]] at ha
      obtain ⟨b, hb, e2⟩ := d2 a ha
      exact ho _ (.inr ⟨i, hi, b, hb, e2⟩)
     ·rw [show upd sl' i r.1 j = sl' j by simp [upd, e]] at ha
      exact ho _ (.inr ⟨j, hj, a, ha, rfl⟩)
 have := loop 256 0 H1 sl (by omega) (.refl _ _) (fun _ _ => rfl) ((T.keeps k1).ext fun j _ => by rw [if_neg (by omega)]) (fun _ h => h)
 exact this
end
def amg (x n : Int) : Int := Int.tmod (Int.tmod x n + n) n
theorem amg_lt (x : Int) {n : Int} (hn : 0 < n) : 0 ≤ amg x n ∧ amg x n < n := by
 unfold amg
 have h1 : Int.tmod x n < n := Int.tmod_lt_of_pos x hn
 have h2 : -n < Int.tmod x n := by
  have := Int.lt_tmod_of_pos x hn
  omega
 exact ⟨Int.tmod_nonneg _ (by omega), Int.tmod_lt_of_pos _ hn⟩
theorem among_spec (k : Nat) (D : CallF) (x : Int) {n : Int} (hn : 0 < n) (hn2 : n < 1000000000) (h : AHeap) : book_Among k D x n h = some (amg x n, h) := by
 simp only [book_Among]
 rw [if_neg (by omega), if_neg (by omega)]
 have h1 : Int.tmod x n < n := Int.tmod_lt_of_pos x hn
 have h2 : -n < Int.tmod x n := by
  have := Int.lt_tmod_of_pos x hn
  omega
 rw [Gx.w64 _ (by omega)]
 rfl
def rep32 (b : Nat) : ByteArray := repB ⟨⟨[UInt8.ofNat b]⟩⟩ 32
def itemV (id pack off : Int) : It := (rep32 (amg id 20 * 13).toNat, rep32 (97 + amg pack 5).toNat, 1, amg off 100, 5, 3)
theorem itemV_ok (id pack off : Int) : okI (itemV id pack off) := by
 have := amg_lt off (n := 100) (by decide)
 refine ⟨rfl, rfl, .inl rfl, ⟨this.1, ?_⟩, (by show (1 : Int) ≤ 5 ∧ (5 : Int) ≤ 65536; decide), (by show (0 : Int) ≤ 3 ∧ (3 : Int) ≤ 65536; decide)⟩
 show amg off 100 ≤ 65536
 omega
theorem item_spec (k : Nat) (D : CallF) (id pack off : Int) (h : AHeap) : Gx.Wp (law15_item k D id pack off h) fun z => z.1 = itemV id pack off ∧ Keeps h z.2 := by
 simp only [law15_item]
 have b1 := amg_lt pack (n := 5) (by decide)
 have b2 := amg_lt id (n := 20) (by decide)
 have one : ∀ {H : AHeap} {b : Nat} {v : Int} {e : TypeId}, H.get b = some (.cells [.int .u8 v] e true 0) → bytesOf H ⟨some ⟨b, 0, some 0⟩, 1, 1⟩ = some ⟨⟨[UInt8.ofNat v.toNat]⟩⟩ := fun {H b v e} hg => by
  simp only [bytesOf]
  rw [rdL_ok hg (by simp)]
  rfl
 refine Wp.newE fun H1 e1 k1 n1 g1 => .bnd (among_spec k D pack (by decide) (by decide) H1) (Wp.newE fun H2 e2 k2 n2 g2 => .bnd (one g2) (.bnd (among_spec k D id (by decide) (by decide) H2) (Wp.newE fun H3 e3 k3 n3 g3 => .bnd (one g3) ?_)))
 have ew1 : IntKind.wrap .u8 (IntKind.wrap .i64 (97 + amg pack 5)) = 97 + amg pack 5 := by rw [Gx.w64 _ (by omega), Gx.w8 _ (by omega)]
 have ew2 : IntKind.wrap .u8 (IntKind.wrap .i64 (amg id 20 * 13)) = amg id 20 * 13 := by rw [Gx.w64 _ (by omega), Gx.w8 _ (by omega)]
 simp only [ew1, ew2]
 have rp : ∀ b : Nat, repeatA ⟨⟨[UInt8.ofNat b]⟩⟩ 32 = some (rep32 b) := fun b => rfl
 have k23 : Keeps H1 H3 := Chg.trans (h1 := H2) k2 k3
 have g4 : H3.get h.next = some (.cells noI 57 true 0) := Keeps.got k23 (by omega) g1
 refine .bnd (rp _) (.bnd (rp _) (.bnd (among_spec k D off (by decide) (by decide) H3) (Wp.stL g4 rfl rfl rfl (by decide) fun H4 c4 n4 g5 => .bnd (sldA_at g5 rfl) (.bnd (decI6 (itemV id pack off)) (.of ⟨rfl, ?_⟩)))))
 exact ((k1.trans k2).trans k3).keepsS c4 fun y hy => by subst hy; omega
end Gc
namespace Gc
open Go Gx
def Tru {R : Type} (x : Option (R × AHeap)) (v : R) : Prop := ∃ h', x = some (v, h')
theorem Tru.wp {R : Type} {v : R} {x : Option (R × AHeap)} (h : Gx.Wp x fun q => q.1 = v) : Tru x v := by
 obtain ⟨⟨a, b⟩, e, q⟩ := h
 simp only at q
 subst q
 exact ⟨b, e⟩
def itA : It := itemV 1 2 5
def itB : It := itemV 1 1 9
theorem itAB : lessI itB itA = true := by decide
theorem itAB2 : lessI itA itB = false := by decide
theorem putAB : putI itB (putI itA []) = [itB, itA] := by
 have e1 : putI itA [] = [itA] := by unfold putI; rw [if_neg (by simp)]; rfl
 rw [e1]
 unfold putI
 have hne : ¬ itB ∈ [itA] := fun h => by
  have : itB = itA := by simpa using h
  have h2 := itAB
  rw [this, lessI_irrefl] at h2; cases h2
 rw [if_neg hne]
 simp [itAB2]
theorem addAB : addL (fun _ => []) [itA, itB] (idx itA.1) = [itB, itA] := by
 show addF (addF (fun _ => []) itA) itB (idx itA.1) = _
 unfold addF upd
 rw [show idx itB.1 = idx itA.1 from rfl, if_pos rfl, if_pos rfl]
 exact putAB
theorem addAB0 {i : Nat} (h : i ≠ idx itA.1) : addL (fun _ => []) [itA, itB] i = [] := by
 show addF (addF (fun _ => []) itA) itB i = _
 unfold addF upd
 rw [show idx itB.1 = idx itA.1 from rfl, if_neg h, if_neg h]
theorem outA : outP itB.2.1 itA = true := by decide
theorem outB : outP itB.2.1 itB = false := by decide
theorem cntOne (F : Nat → List It) (i0 : Nat) (h : ∀ i, i ≠ i0 → F i = []) : ∀ n, cntTo F n = if i0 < n then (F i0).length else 0
 | 0 => by simp [cntTo]
 | n + 1 => by
  rw [cntTo_s, cntOne F i0 h n]
  by_cases c : n = i0
  ·subst c; rw [if_neg (Nat.lt_irrefl _), if_pos (by omega)]; omega
  ·rw [h n c]
   by_cases d : i0 < n
   ·rw [if_pos d, if_pos (by omega)]; rfl
   ·rw [if_neg d, if_neg (by omega)]; rfl
section
variable {k : Nat}
theorem works_spec (hk : 1000 ≤ k) (h : AHeap) : Gx.Wp (law15_works k (DD k) h) fun z => z.1 = true ∧ Keeps h z.2 := by
 simp only [law15_works]
 obtain ⟨h1, a1, k1, T1⟩ := new_spec k (DD k) h
 refine .bnd a1 (Gx.Wp.jn fun j5 h5 => .ifn (by simp) ?_)
 refine .call (item_spec k (DD k) 1 2 5 h1) fun r18 ⟨q18, k18⟩ => .call (item_spec k (DD k) 1 1 9 r18.2) fun r19 ⟨q19, k19⟩ => ?_
 rw [q18, q19]
 refine Wp.newE fun H e0 k0 n0 g0 => ?_
 have g0' : H.get r19.2.next = some (.cells ([itA, itB].flatMap itC) 57 true 0) := g0
 have R : RowW 6 itC H ⟨some ⟨r19.2.next, 0, some 0⟩, 2, 2⟩ [itA, itB] := by
  have := rowW_blk (w := 6) (enc := itC) itC_len (n := 2) (cap := 2) (sp := some 0) (ys := [itA, itB]) g0' (by omega) (Nat.le_refl _)
  exact this
 have kH : Keeps h1 H := (k18.trans k19).trans k0
 have nH := kH.nx
 have n1 := k1.nx
 have hr0 : RisesT fun _ => [] := fun i _ => List.Pairwise.nil
 have hm0 : MaxT (fun _ => []) 0 := fun i _ => Nat.le_refl _
 have n19 : h1.next ≤ r19.2.next := (k18.trans k19).nx
 have own1 : ∀ y, TOwn h.next (fun _ => (⟨none, 0, 0⟩ : Slc)) y → y < h1.next := fun y hy => (T1.own hy).2
 refine .call (add_spec (by omega) R (N := 0) (by simp) (by simp; omega) (fun a ha z => by cases ha; have := own1 _ z; simp only at this; omega) (by omega) (T1.keeps kH) hr0 hm0 (fun x hx => ?_)) fun r21 ⟨q21, sl2, T2, c2, o2⟩ => ?_
 ·simp only [List.mem_cons, List.not_mem_nil, or_false] at hx
  rcases hx with rfl | rfl
  ·exact itemV_ok _ _ _
  ·exact itemV_ok _ _ _
 have hr2 : RisesT (addL (fun _ => []) [itA, itB]) := addL_rises hr0
 have hm2 : MaxT (addL (fun _ => []) [itA, itB]) 2 := by have := addL_max (xs := [itA, itB]) hm0; simpa using this
 rw [q21, h5]
 refine .ifn (by decide) (.call (item_spec k (DD k) 1 0 0 r21.2) fun r6 ⟨q6, k6⟩ => ?_)
 have hid : r6.1.1 = itA.1 := by rw [q6]; rfl
 rw [hid]
 have T3 := T2.keeps k6
 refine .call (get_spec T3 hr2 hm2 (by decide) (by omega) itA.1) fun r7 ⟨q7, k7⟩ => ?_
 have hg1 : getL (addL (fun _ => []) [itA, itB] (idx itA.1)) itA.1 = (itB.2, true) := by rw [addAB]; rfl
 rw [hg1] at q7
 rw [q7]
 refine Wp.newE fun H8 e8 k8 n8 g8 => Wp.stL g8 rfl rfl rfl (by decide) fun H9 c9 n9 g9 => ?_
 have k9 : Keeps r7.2 H9 := k8.keepsS c9 fun y hy => by subst hy; omega
 have gB : H9.get r7.2.next = some (.cells (plC itB.2) 55 true 0) := g9
 have T9 := (T3.keeps k7).keeps k9
 refine .bnd (show ldS ⟨r7.2.next, 0, none⟩ H9 = some itB.2.1 by simp [ldS, AHeap.rd1, gB, plC, decS]) (.call (drop_spec (by omega) T9 hm2 (by decide) (by omega) itB.2.1) fun r11 ⟨q11, sl3, T11, c11, o11⟩ => ?_)
 have n7 := k7.nx
 have n6 := k6.nx
 have gB2 : r11.2.get r7.2.next = some (.cells (plC itB.2) 55 true 0) := c11.got (by omega) (fun z => by have := ((T3.keeps k7).own z).2; omega) gB
 have n11 := c11.nx
 refine .call (item_spec k (DD k) 1 0 0 r11.2) fun r12 ⟨q12, k12⟩ => ?_
 have hid2 : r12.1.1 = itA.1 := by rw [q12]; rfl
 rw [hid2]
 have hr3 := dropF_rises hr2 itB.2.1
 have hm3 := dropF_max hm2 itB.2.1
 refine .call (get_spec (T11.keeps k12) hr3 hm3 (by decide) (by omega) itA.1) fun r13 ⟨q13, k13⟩ => ?_
 have hg2 : getL (dropF (addL (fun _ => []) [itA, itB]) itB.2.1 (idx itA.1)) itA.1 = (itA.2, true) := by
  unfold dropF
  rw [addAB]; rfl
 rw [hg2] at q13
 rw [q13]
 refine Wp.newE fun H14 e14 k14 n14 g14 => Wp.stL g14 rfl rfl rfl (by decide) fun H15 c15 n15 g15 => ?_
 have k15 : Keeps r13.2 H15 := k14.keepsS c15 fun y hy => by subst hy; omega
 have gA : H15.get r13.2.next = some (.cells (plC itA.2) 55 true 0) := g15
 have kz : Keeps r11.2 H15 := (k12.trans k13).trans k15
 have gB3 : H15.get r7.2.next = some (.cells (plC itB.2) 55 true 0) := Keeps.got kz (by omega) gB2
 have hcnt : cntTo (addL (fun _ => []) [itA, itB]) 256 - cntTo (dropF (addL (fun _ => []) [itA, itB]) itB.2.1) 256 = 1 := by
  rw [cntOne _ (idx itA.1) (fun i hi => addAB0 hi), cntOne _ (idx itA.1) (fun i hi => by unfold dropF; rw [addAB0 hi]; rfl), if_pos (idx_lt _), if_pos (idx_lt _)]
  unfold dropF
  rw [addAB]
  simp [outA, outB]
 rw [hcnt] at q11
 refine .ifp rfl (.bnd (sldI_at gB3 (show (plC itB.2)[2]? = some (.int .i64 9) from rfl)) (.ifp (by decide) (.ifp (by rw [q11]; decide) (.ifp rfl (.bnd (sldI_at gA (show (plC itA.2)[2]? = some (.int .i64 5) from rfl)) (.of ⟨rfl, ?_⟩))))))
 have kA : Keeps h H := k1.trans kH
 have kB : Keeps h r21.2 := kA.keepsS c2 fun y hy => by
  rcases hy with rfl | ⟨i, _, a, ha, _⟩
  ·exact Nat.le_refl _
  ·cases ha
 have kC : Keeps h H9 := ((kB.trans k6).trans k7).trans k9
 have kD : Keeps h r11.2 := kC.keepsS c11 fun y hy => (T9.own hy).1
 exact kD.trans kz
theorem eqI (x y : It) : ((x.1 == y.1) && ((x.2.1 == y.2.1) && ((x.2.2.1 == y.2.2.1) && ((x.2.2.2.1 == y.2.2.2.1) && ((x.2.2.2.2.1 == y.2.2.2.2.1) && (x.2.2.2.2.2 == y.2.2.2.2.2)))))) = decide (x = y) := by
 obtain ⟨a, b, c, d, e, f⟩ := x
 obtain ⟨a', b', c', d', e', f'⟩ := y
 simp only [beq_ba, Prod.mk.injEq]
 rw [Bool.eq_iff_iff]
 simp
theorem one_true (hk : 1000 ≤ k) (x y z : It) (h : AHeap) : Tru (law15_LookupOne k (DD k) x y z h) true := by
 refine Tru.wp ?_
 simp only [law15_LookupOne]
 refine Wp.newE fun H1 e1 k1 n1 g1 => Wp.newE fun H2 e2 k2 n2 g2 => Wp.newE fun H3 e3 k3 n3 g3 => .call (works_spec hk H3) fun r4 ⟨q4, k4⟩ => .ifn (by simp [q4]) ?_
 have gx : H3.get h.next = some (.cells (itC x) 57 true 0) := Keeps.got (Chg.trans k2 k3) (by omega) g1
 have gy : H3.get H1.next = some (.cells (itC y) 57 true 0) := k3.got (by omega) g2
 have gz : H3.get H2.next = some (.cells (itC z) 57 true 0) := g3
 have lx : ∀ {H : AHeap}, Keeps H3 H → ldA 6 ⟨h.next, 0, none⟩ H = some (itC x) := fun q => sldA_at (q.got (by omega) gx) rfl
 have ly : ∀ {H : AHeap}, Keeps H3 H → ldA 6 ⟨H1.next, 0, none⟩ H = some (itC y) := fun q => sldA_at (q.got (by omega) gy) rfl
 have lz : ∀ {H : AHeap}, Keeps H3 H → ldA 6 ⟨H2.next, 0, none⟩ H = some (itC z) := fun q => sldA_at (q.got (by omega) gz) rfl
 refine .bnd (lx k4) (.bnd (decI6 x) (.bnd (ly k4) (.bnd (decI6 y) (.call (less_spec _ (by omega) x y r4.2) fun r9 ⟨q9, k9⟩ => ?_))))
 have k9' : Keeps H3 r9.2 := k4.trans k9
 refine .bnd (ly k9') (.gp (ssw1 (by rw [ly k4]; rfl)) (.bnd (decI6 y) (.bnd (lx k9') (.gp (ssw1 (by rw [lx k4]; rfl)) (.bnd (decI6 x) (.call (less_spec _ (by omega) y x r9.2) fun r18 ⟨q18, k18⟩ => ?_))))))
 have k18' : Keeps H3 r18.2 := k9'.trans k18
 refine Gx.Wp.jn fun j25 h25 => ?_
 have J : ∀ (H : AHeap), Keeps H3 H → Gx.Wp (j25 (some ⟨h.next, 0, none⟩) (some ⟨H1.next, 0, none⟩) (some ⟨H2.next, 0, none⟩) r9.1 false H) fun q => q.1 = true := by
  intro H kH
  rw [h25]
  refine .ifn (by decide) ?_
  by_cases c : lessI x y = true
  ·refine .ifn (by simp [q9, c]) (.bnd rfl (.bnd (ly kH) (.bnd (decI6 y) (.bnd rfl (.bnd (lz kH) (.bnd (decI6 z) (.call (less_spec _ (by omega) y z H) fun r32 ⟨q32, k32⟩ => ?_)))))))
   have k32' : Keeps H3 r32.2 := kH.trans k32
   by_cases d : lessI y z = true
   ·refine .ifn (by simp [q32, d]) (.bnd rfl (.bnd (lx k32') (.bnd (decI6 x) (.bnd rfl (.bnd (lz k32') (.bnd (decI6 z) (.call (less_spec _ (by omega) x z r32.2) fun r39 ⟨q39, _⟩ => .of ?_)))))))
    rw [q39]; exact lessI_trans c d
   ·exact .ifp (by simp [q32, d]) (.of rfl)
  ·exact .ifp (by simp [q9, c]) (.of rfl)
 have L : ∀ {H : AHeap}, Keeps H3 H → Gx.Wp (lookup_Less k (DD k) x x H) fun q => q.1 = false ∧ Keeps H3 q.2 := fun {H} kH => (less_spec _ (by omega) x x H).mono fun q ⟨a, b⟩ => ⟨by rw [a, lessI_irrefl], kH.trans b⟩
 refine .bnd (lx k18') (.bnd (decI6 x) (.bnd (ly k18') (.bnd (decI6 y) ?_)))
 rw [eqI]
 have last : Gx.Wp ((ldA 6 ⟨h.next, 0, none⟩ r18.2).bind fun l => (decC [.s, .s, .i .i64, .i .i64, .i .i64, .i .i64] l).bind fun a => (ldA 6 ⟨h.next, 0, none⟩ r18.2).bind fun l => (decC [.s, .s, .i .i64, .i .i64, .i .i64, .i .i64] l).bind fun b =>
   (lookup_Less k (DD k) (a.1, a.2.1, a.2.2.1, a.2.2.2.1, a.2.2.2.2.1, a.2.2.2.2.2) (b.1, b.2.1, b.2.2.1, b.2.2.2.1, b.2.2.2.2.1, b.2.2.2.2.2) r18.2).bind fun r => j25 (some ⟨h.next, 0, none⟩) (some ⟨H1.next, 0, none⟩) (some ⟨H2.next, 0, none⟩) r9.1 r.1 r.2) fun q => q.1 = true := by
  refine .bnd (lx k18') (.bnd (decI6 x) (.bnd (lx k18') (.bnd (decI6 x) (.call (L k18') fun r ⟨a, b⟩ => ?_))))
  rw [a]; exact J r.2 b
 by_cases c : lessI x y = true
 ·have c2 := lessI_asymm c
  have c3 : ¬ x = y := fun e => by rw [e, lessI_irrefl] at c; cases c
  refine .ifp (by rw [q9, c]) (.ifn (by simp [c3]) (.ifp (by rw [q9, c]) (.ifn (by rw [q18, c2]; decide) ?_)))
  exact last
 ·have c' : lessI x y = false := by simpa using c
  refine .ifn (by rw [q9, c']; decide) (.ifn ?_ (.ifn (by rw [q9, c']; decide) ?_))
  ·rw [q18]
   intro e
   by_cases d : x = y
   ·subst d
    rw [lessI_irrefl] at e; simp at e
   ·rcases lessI_total x y with g | g | g
    ·rw [g] at c'; cases c'
    ·exact d g
    ·rw [g] at e; simp [d] at e
  ·exact last
end
end Gc
namespace Gc
open Go Gx
variable {H : Type} {enc : TypeId × Value → H}
theorem vr_plain {μ : BMap} {x : Value} : ∀ {v : Value}, (match x with | .int _ _ => True | .string _ => True | _ => False) → VR μ x v → v = x := by
 intro v h r
 cases r <;> first | rfl | exact h.elim
theorem open_item {P : Program} {t : TypeId} {d : Nat} {w : World}
  (hT : shapeOf P d t = some (.pair .str (.pair (.pair .str (.pair (.int .i64) (.pair (.int .i64) (.pair (.int .i64) (.pair (.int .i64) .unit))))) .unit))) (ht : aggT P t = some true)
  {r : Reach} {base : Nat} {v : Value} {dd : DataW H} {ps : List MemPlace} (hval : Value.okWide P w r base t v) (hd : DataW.Trod enc P w 0 (fun _ => true) true t v dd ps) :
  ∃ x : It, (x.1.size ≤ 9223372036854775807 ∧ x.2.1.size ≤ 9223372036854775807) ∧ v = .agg ⟨itC x⟩ ∧ ∀ μ, VR μ (.agg ⟨itC x⟩) v := by
 obtain ⟨μ, h, ⟨a, ⟨b, c, e, f, g, _⟩, _⟩, cs, m, vr, rep⟩ := (Start.zero w).dataA hT ht hval hd
 obtain ⟨c1, c2, rfl, ⟨rfl, z1⟩, c3, c4, rfl, ⟨c5, c6, rfl, ⟨rfl, z2⟩, c7, c8, rfl, ⟨rfl, _⟩, c9, c10, rfl, ⟨rfl, _⟩, c11, c12, rfl, ⟨rfl, _⟩, c13, c14, rfl, ⟨rfl, _⟩, rfl⟩, rfl⟩ := rep
 have e : v = .agg ⟨itC (a, b, c, e, f, g)⟩ := by
  cases vr with
  | agg hs hv =>
   rename_i x'
   congr 1
   refine Array.ext hs.symm fun i h1 h2 => ?_
   have h3 := hv i _ _ (Array.getElem?_eq_getElem h2) (Array.getElem?_eq_getElem h1)
   refine vr_plain ?_ h3
   have : i = 0 ∨ i = 1 ∨ i = 2 ∨ i = 3 ∨ i = 4 ∨ i = 5 := by
    have : i < 6 := h2
    omega
   rcases this with rfl | rfl | rfl | rfl | rfl | rfl <;> trivial
 refine ⟨_, ⟨z1, z2⟩, e, fun μ => ?_⟩
 rw [e]
 exact VR.agg_list (VRs.of_plain rfl)
end Gc
