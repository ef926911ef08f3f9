import Derived.Sort.Walk0
import Derived.Test.YtkbemlojkhhgaaaGreatDoorFn2
namespace Gg
open Go Gx
theorem zUw_ (a b : ByteArray) : Op.bytesLess a.toList b.toList = decide (bl a < bl b) := by
 rw [Go.Proofs.bytesLess_eq, ByteArray.toList_eq, ByteArray.toList_eq]; rfl
theorem zEj_ (a b : ByteArray) : (a == b) = decide (a = b) := by
 have e : (a == b) = (a.data == b.data) := rfl
 rw [e]
 by_cases h : a = b
 ·subst h; simp
 ·have : ¬ a.data = b.data := fun e => h (by cases a; cases b; simp at e; rw [e])
  simp [h, this]
abbrev It := ByteArray × ByteArray × Int × Int × Int × Int
def itC (x : It) : List Value := [.string x.1, .string x.2.1, .int .i64 x.2.2.1, .int .i64 x.2.2.2.1, .int .i64 x.2.2.2.2.1, .int .i64 x.2.2.2.2.2]
theorem zG_ (x : It) : (itC x).length = 6 := rfl
theorem zep_ (x : It) : zI_ (itC x) = true := rfl
def cmpB (a b : ByteArray) : Int := if bl a < bl b then -1 else if a = b then 0 else 1
def cmpI (a b : Int) : Int := if a < b then -1 else if a = b then 0 else 1
def orL : List Int → Int
 | [] => 0
 | c :: l => if c ≠ 0 then c else orL l
def ordL (x y : It) : List Int := [cmpB x.1 y.1, cmpB x.2.1 y.2.1, cmpI x.2.2.2.1 y.2.2.2.1, cmpI x.2.2.2.2.1 y.2.2.2.2.1, cmpI x.2.2.2.2.2 y.2.2.2.2.2, cmpI x.2.2.1 y.2.2.1]
def ord (x y : It) : Int := orL (ordL x y)
def zQ_ (x y : It) : Bool := decide (ord x y < 0)
section
variable (k : Nat) (D : za_)
theorem zOn_ (a b : ByteArray) (h : AHeap) : zrc_ k D a b h = some (cmpB a b, h) := by
 simp only [zrc_, zjc_, Option.bind_some, zEj_, zUw_, cmpB]
 by_cases c : bl a < bl b
 ·simp [c]
 ·by_cases e : a = b
  ·simp [e, List.lt_irrefl]
  ·simp [c, e]
theorem zOk_ (a b : Int) (h : AHeap) : zvc_ k D a b h = some (cmpI a b, h) := by
 simp only [zvc_, zJg_, Option.bind_some, cmpI]
 by_cases c : a < b
 ·simp [c]
 ·by_cases e : a = b
  ·simp [e]
  ·have : b < a := by omega
   simp [c, e, this]
theorem zTC_ {k : Nat} (hk : 100 ≤ k) {h : AHeap} {s : Slc} {xs : List Int} (R : Row encI h s xs) (hl : xs.length < 90) : zij_ k D s h = some (orL xs, h) := by
 simp only [zij_]
 refine jn ?_
 unfold zPm_
 generalize hj : (fun (zero1 : Int) (h2 : AHeap) => some (zero1, h2)) = j
 obtain ⟨bot, eb⟩ := zq_ (fun _ _ _ _ _ => none) (zBe_ k D j) (show xs.length + 1 ≤ k by omega)
 rw [eb]
 have loop : ∀ (d i : Nat), i + d = xs.length → zi_ bot (d + 1) (zBe_ k D j) 0 s (s.len : Int) (i : Int) h = some (orL (xs.drop i), h) := fun d => by
  induction d with
  | zero =>
   intro i hd
   obtain rfl : i = xs.length := by omega
   rw [zg_, List.drop_length]; simp only [zBe_]
   subst hj
   exact ifn (by rw [R.1]; simp) rfl
  | succ d ih =>
   intro i hd
   rw [zg_]; simp only [zBe_]
   obtain ⟨x, hx⟩ := zv_ (l := xs) (i := i) (by omega)
   obtain ⟨p, b1, b2⟩ := R.ldI hx
   refine ifp (by rw [R.1]; simp; omega) (bnd b1 (bnd b2 ?_))
   rw [zKd_ hx]
   by_cases c : x = 0
   ·refine ifn (by simp [c]) ?_
    rw [Gx.w1 (by omega), ih (i + 1) (by omega)]
    simp [orL, c]
   ·exact ifp (by simp [c]) (by simp [orL, c])
 exact loop xs.length 0 (by omega)
theorem ssw {hs : List AHeap} {H : AHeap} {F : AHeap → Option Value} {v : Value} (hh : ∀ x ∈ hs, x = H) (h : F H = some v) : zKb_ hs F v := fun x hx => by rw [hh x hx]; exact h
theorem zYq_ {k : Nat} (hk : 100 ≤ k) (x y : It) (h : AHeap) : Gx.Wp (zJf_ k D x y h) fun z => z.1 = ord x y ∧ zc_ h z.2 := by
 simp only [zJf_]
 refine Wp.newE fun H1 e1 k1 n1 g1 => Wp.newE fun H2 e2 k2 n2 g2 => ?_
 have gx : H2.get h.next = some (.cells (itC x) 57 true 0) := k2.got (by omega) g1
 have gy : H2.get H1.next = some (.cells (itC y) 57 true 0) := g2
 have lS : ∀ {b o : Nat} {c : List Value} {t : ByteArray}, H2.get b = some (.cells c 57 true 0) → c[o]? = some (.string t) → ldS ⟨b, o, none⟩ H2 = some t := fun hb hc => by simp [ldS, AHeap.rd1, hb, hc, decS]
 have lI : ∀ {b o : Nat} {c : List Value} {t : Int}, H2.get b = some (.cells c 57 true 0) → c[o]? = some (.int .i64 t) → ldI .i64 ⟨b, o, none⟩ H2 = some t := fun hb hc => zp_ hb hc
 have x1 := lS (o := 0) gx rfl; have x2 := lS (o := 1) gx rfl; have x3 := lI (o := 3) gx rfl; have x4 := lI (o := 4) gx rfl; have x5 := lI (o := 5) gx rfl; have x6 := lI (o := 2) gx rfl
 have y1 := lS (o := 0) gy rfl; have y2 := lS (o := 1) gy rfl; have y3 := lI (o := 3) gy rfl; have y4 := lI (o := 4) gy rfl; have y5 := lI (o := 5) gy rfl; have y6 := lI (o := 2) gy rfl
 refine .bnd x1 (.bnd y1 (.bnd (zOn_ k D _ _ _) ?_))
 refine .bnd x2 (.gp (ssw (H := H2) (by simp) (by rw [x2]; rfl)) (.bnd y2 (.gp (ssw (H := H2) (by simp) (by rw [y2]; rfl)) (.bnd (zOn_ k D _ _ _) ?_))))
 refine .bnd x3 (.gp (ssw (H := H2) (by simp) (by rw [x3]; rfl)) (.bnd y3 (.gp (ssw (H := H2) (by simp) (by rw [y3]; rfl)) (.bnd (zOk_ k D _ _ _) ?_))))
 refine .bnd x4 (.gp (ssw (H := H2) (by simp) (by rw [x4]; rfl)) (.bnd y4 (.gp (ssw (H := H2) (by simp) (by rw [y4]; rfl)) (.bnd (zOk_ k D _ _ _) ?_))))
 refine .bnd x5 (.gp (ssw (H := H2) (by simp) (by rw [x5]; rfl)) (.bnd y5 (.gp (ssw (H := H2) (by simp) (by rw [y5]; rfl)) (.bnd (zOk_ k D _ _ _) ?_))))
 refine .bnd x6 (.gp (ssw (H := H2) (by simp) (by rw [x6]; rfl)) (.bnd y6 (.gp (ssw (H := H2) (by simp) (by rw [y6]; rfl)) (.bnd (zOk_ k D _ _ _) ?_))))
 refine Wp.newE fun H3 e3 k3 n3 g3 => ?_
 have R : Row encI H3 (⟨some ⟨H2.next, 0, some 0⟩, 6, 6⟩ : Slc) (ordL x y) := Row.of_block (xs := ordL x y) (o := 0) g3 (by rw [n3]; exact Nat.lt_succ_self H2.next) fun i z hz => by
  match i with
  | 0 => cases hz; rfl
  | 1 => cases hz; rfl
  | 2 => cases hz; rfl
  | 3 => cases hz; rfl
  | 4 => cases hz; rfl
  | 5 => cases hz; rfl
  | i + 6 => simp [ordL] at hz
 exact .bnd (zTC_ D hk R (by simp [ordL])) (.of ⟨rfl, (k1.trans k2).trans k3⟩)
theorem zvb_ (x : It) : decC [.s, .s, .i .i64, .i .i64, .i .i64, .i .i64] (itC x) = some x := rfl
theorem zzA_ {k : Nat} (hk : 100 ≤ k) (x y : It) (h : AHeap) : Gx.Wp (zri_ k D x y h) fun z => z.1 = zQ_ x y ∧ zc_ h z.2 := by
 simp only [zri_]
 refine Wp.newE fun H1 e1 k1 n1 g1 => Wp.newE fun H2 e2 k2 n2 g2 => ?_
 have gx : H2.get h.next = some (.cells (itC x) 57 true 0) := k2.got (by omega) g1
 refine .bnd (zA_ gx rfl) (.bnd (zvb_ x) (.bnd (zA_ g2 rfl) (.bnd (zvb_ y) (.call (zYq_ D hk x y H2) fun r ⟨q1, q2⟩ => .of ⟨?_, (k1.trans k2).trans q2⟩))))
 show decide (r.1 < 0) = _
 rw [q1]; rfl
end
def okI (x : It) : Prop := x.1.size = 32 ∧ x.2.1.size = 32 ∧ (x.2.2.1 = 1 ∨ x.2.2.1 = 2) ∧ (0 ≤ x.2.2.2.1 ∧ x.2.2.2.1 ≤ 65536) ∧ (1 ≤ x.2.2.2.2.1 ∧ x.2.2.2.2.1 ≤ 65536) ∧ (0 ≤ x.2.2.2.2.2 ∧ x.2.2.2.2.2 ≤ 65536)
instance (x : It) : Decidable (okI x) := by unfold okI; exact inferInstance
def chkI (x : It) : Int := if okI x then 0 else 1
section
variable (k : Nat) (D : za_)
theorem zUk_ (n l : Int) (h : AHeap) : zRd_ k D n l h = some (decide (l ≤ n ∧ n ≤ 65536), h) := by
 simp only [zRd_]
 by_cases c : l ≤ n
 ·simp [c]
 ·simp [c]
theorem zem_ (x : It) (h : AHeap) : Gx.Wp (zIe_ k D x h) fun z => z.1 = chkI x ∧ zc_ h z.2 := by
 simp only [zIe_]
 refine Wp.newE fun H1 e1 k1 n1 g1 => Wp.jn fun j5 h5 => ?_
 have gx : H1.get h.next = some (.cells (itC x) 57 true 0) := g1
 have lS : ∀ {o : Nat} {t : ByteArray}, (itC x)[o]? = some (.string t) → ldS ⟨h.next, o, none⟩ H1 = some t := fun hc => by simp [ldS, AHeap.rd1, gx, hc, decS]
 have lI : ∀ {o : Nat} {t : Int}, (itC x)[o]? = some (.int .i64 t) → ldI .i64 ⟨h.next, o, none⟩ H1 = some t := fun hc => zp_ gx hc
 have J : ∀ kd : Bool, (kd = true ↔ (x.2.2.1 = 1 ∨ x.2.2.1 = 2)) → Gx.Wp (j5 (some ⟨h.next, 0, none⟩) kd H1) fun z => z.1 = chkI x ∧ zc_ h z.2 := by
  intro kd hkd
  rw [h5]
  refine Wp.jn fun j8 h8 => ?_
  have j8t : ¬ okI x → Gx.Wp (j8 true H1) fun z => z.1 = chkI x ∧ zc_ h z.2 := fun hn => by rw [h8]; exact .of ⟨by simp [chkI, hn], k1⟩
  have j8f : okI x → Gx.Wp (j8 false H1) fun z => z.1 = chkI x ∧ zc_ h z.2 := fun hn => by rw [h8]; exact .of ⟨by simp [chkI, hn], k1⟩
  refine .bnd rfl (.bnd (lS (o := 0) rfl) (.bnd rfl ?_))
  by_cases c1 : x.1.size = 32
  rotate_left
  ·exact .ifp (by simp; omega) (j8t fun q => c1 q.1)
  refine .ifn (by simp [c1]) (.bnd rfl (.bnd (lS (o := 1) rfl) (.bnd rfl ?_)))
  by_cases c2 : x.2.1.size = 32
  rotate_left
  ·exact .ifp (by simp; omega) (j8t fun q => c2 q.2.1)
  refine .ifn (by simp [c2]) ?_
  by_cases c3 : kd = true
  rotate_left
  ·exact .ifp (by simpa using c3) (j8t fun q => c3 (hkd.2 q.2.2.1))
  refine .ifn (by simp [c3]) (.bnd rfl (.bnd (lI (o := 3) rfl) (.bnd (zUk_ k D _ _ _) ?_)))
  by_cases c4 : 0 ≤ x.2.2.2.1 ∧ x.2.2.2.1 ≤ 65536
  rotate_left
  ·exact .ifp (by simp only [c4, decide_false, Bool.not_false]) (j8t fun q => c4 q.2.2.2.1)
  refine .ifn (by simp [c4]) (.bnd rfl (.bnd (lI (o := 4) rfl) (.bnd (zUk_ k D _ _ _) ?_)))
  by_cases c5 : 1 ≤ x.2.2.2.2.1 ∧ x.2.2.2.2.1 ≤ 65536
  rotate_left
  ·exact .ifp (by simp only [c5, decide_false, Bool.not_false]) (j8t fun q => c5 q.2.2.2.2.1)
  refine .ifn (by simp [c5]) (.bnd rfl (.bnd (lI (o := 5) rfl) (.bnd (zUk_ k D _ _ _) ?_)))
  by_cases c6 : 0 ≤ x.2.2.2.2.2 ∧ x.2.2.2.2.2 ≤ 65536
  ·simp only [c6, and_self, decide_true, Bool.not_true]
   exact j8f ⟨c1, c2, hkd.1 c3, c4, c5, c6⟩
  ·simp only [c6, decide_false, Bool.not_false]
   exact j8t fun q => c6 q.2.2.2.2.2
 refine .bnd (lI (o := 2) rfl) ?_
 by_cases c : x.2.2.1 = 1
 ·exact .ifp (by simpa using c) (J true (by simp [c]))
 ·exact .ifn (by simpa using c) (.bnd (lI (o := 2) rfl) (J _ (by simp [c])))
def zNv_ (x y : It) : Bool :=
 if x.1 ≠ y.1 then decide (bl x.1 < bl y.1) else if x.2.1 ≠ y.2.1 then decide (bl x.2.1 < bl y.2.1) else
 if x.2.2.2.1 ≠ y.2.2.2.1 then decide (x.2.2.2.1 < y.2.2.2.1) else if x.2.2.2.2.1 ≠ y.2.2.2.2.1 then decide (x.2.2.2.2.1 < y.2.2.2.2.1) else
 if x.2.2.2.2.2 ≠ y.2.2.2.2.2 then decide (x.2.2.2.2.2 < y.2.2.2.2.2) else decide (x.2.2.1 < y.2.2.1)
theorem zso_ {a b : ByteArray} : cmpB a b = 0 ↔ a = b := by
 unfold cmpB
 by_cases c : bl a < bl b
 ·simp only [c, if_true]
  constructor
  ·intro h; omega
  ·rintro rfl; exact absurd c (List.lt_irrefl _)
 ·by_cases e : a = b <;> simp [c, e]
theorem zNl_ {a b : ByteArray} : cmpB a b < 0 ↔ bl a < bl b := by
 unfold cmpB
 by_cases c : bl a < bl b
 ·simp [c]
 ·by_cases e : a = b
  ·subst e; simp [List.lt_irrefl]
  ·simp [c, e]
theorem zLo_ {a b : Int} : cmpI a b = 0 ↔ a = b := by
 unfold cmpI
 by_cases c : a < b
 ·simp [c]; omega
 ·by_cases e : a = b <;> simp [c, e]
theorem zqm_ {a b : Int} : cmpI a b < 0 ↔ a < b := by
 unfold cmpI
 by_cases c : a < b
 ·simp [c]
 ·by_cases e : a = b <;> simp [c, e]
theorem zUz_ (x y : It) : zQ_ x y = zNv_ x y := by
 unfold zQ_ zNv_ ord ordL
 simp only [orL, ne_eq, zso_, zLo_]
 by_cases c1 : x.1 = y.1
 rotate_left
 ·simp [c1, zNl_]
 by_cases c2 : x.2.1 = y.2.1
 rotate_left
 ·simp [c1, c2, zNl_]
 by_cases c3 : x.2.2.2.1 = y.2.2.2.1
 rotate_left
 ·simp [c1, c2, c3, zqm_]
 by_cases c4 : x.2.2.2.2.1 = y.2.2.2.2.1
 rotate_left
 ·simp [c1, c2, c3, c4, zqm_]
 by_cases c5 : x.2.2.2.2.2 = y.2.2.2.2.2
 rotate_left
 ·simp [c1, c2, c3, c4, c5, zqm_]
 by_cases c6 : x.2.2.1 = y.2.2.1
 rotate_left
 ·simp [c1, c2, c3, c4, c5, c6, zqm_]
 ·simp [c1, c2, c3, c4, c5, c6]
end
noncomputable def DD (k : Nat) : za_ := mkC noC [zFl_ k noC, zcg_ k noC, zZi_ k noC, zMm_ k noC, zyj_ k noC, zNo_ k noC]
theorem zYB_ (k : Nat) : zf_ Go.Proofs.Tryz.prog 2 (DD k) :=
 zd_ zFf_ (zb_.more (zDk_ zFf_ k) (zb_.more (zvj_ zFf_ k) (zb_.more (zzo_ zFf_ k) (zb_.more (zhs_ zFf_ k) (zb_.more (zAp_ zFf_ k) (zb_.more (zBt_ zFf_ k) zb_.none))))))
theorem zov_ {R : Type} {Q : R → Prop} {k : Nat} (hk : 100 ≤ k) {x y : It} {h : AHeap} {κ : Value → AHeap → Option R} {C : za_} (hC : C = DD k) (kt : ∀ h', zc_ h h' → Gx.Wp (κ (.int .i64 (ord x y)) h') Q) :
  Gx.Wp (zVc_ C (.func (.func 58) ⟨[]⟩ ⟨[]⟩) [.agg ⟨itC x⟩, .agg ⟨itC y⟩] h κ) Q := by
 subst hC
 show Gx.Wp ((zJf_ k noC x y h).bind fun r => κ (.int .i64 r.1) r.2) Q
 refine .call (zYq_ noC hk x y h) fun r ⟨q1, q2⟩ => ?_
 rw [q1]; exact kt _ q2
theorem zms_ {R : Type} {Q : R → Prop} {k : Nat} {x : It} {id : ByteArray} {h : AHeap} {κ : Value → AHeap → Option R} {C : za_} (hC : C = DD k) (kt : ∀ h', zc_ h h' → Gx.Wp (κ (.int .i64 (cmpB x.1 id)) h') Q) :
  Gx.Wp (zVc_ C (.func (.func 79) ⟨[]⟩ ⟨[]⟩) [.agg ⟨itC x⟩, .string id] h κ) Q := by
 subst hC
 show Gx.Wp ((zze_ k noC x id h).bind fun r => κ (.int .i64 r.1) r.2) Q
 simp only [zze_]
 refine .call (P := fun r => r.1 = cmpB x.1 id ∧ zc_ h r.2) (Wp.newE fun H1 e1 k1 n1 g1 => ?_) fun r ⟨q1, q2⟩ => by rw [q1]; exact kt _ q2
 exact .bnd (show ldS ⟨h.next, 0, none⟩ H1 = some x.1 by simp [ldS, AHeap.rd1, g1, decS]) (.bnd (zOn_ k noC _ _ _) (.of ⟨rfl, k1⟩))
section
variable {k : Nat} {h : AHeap} {s : Slc} {xs : List It}
theorem half {i j : Nat} (hi : i < j) (hj : j ≤ 1000000000) : IntKind.wrap .i64 (Int.fdiv (IntKind.wrap .u64 (IntKind.wrap .i64 ((i : Int) + (j : Int)))) 2) = (((i + j) / 2 : Nat) : Int) := by
 have e1 : IntKind.wrap .i64 ((i : Int) + (j : Int)) = ((i + j : Nat) : Int) := by rw [Gx.w64 _ (by omega)]; omega
 have e2 : IntKind.wrap .u64 ((i + j : Nat) : Int) = ((i + j : Nat) : Int) := Gx.zmr_ _ (by omega) (by omega)
 rw [e1, e2, Int.fdiv_eq_ediv_of_nonneg _ (by omega), Gx.w64 _ (by omega)]
 omega
theorem zHw_ (hk : 100 ≤ k) (hkx : xs.length + 10 ≤ k) (R : RowW 6 itC h s xs) (hl : xs.length ≤ 1000000000) (x : It) {p : Nat} (hp : p ≤ xs.length) (h1 : ∀ i y, i < p → xs[i]? = some y → ord y x < 0) (h2 : ∀ i y, p ≤ i → xs[i]? = some y → ¬ ord y x < 0) :
  Gx.Wp (zJ_ k (DD k) s x (.func (.func 58) ⟨[]⟩ ⟨[]⟩) h) fun z => z.1.1 = (p : Int) ∧ (z.1.2 = true ↔ ∃ y, xs[p]? = some y ∧ ord y x = 0) ∧ zc_ h z.2 := by
 simp only [zJ_]
 refine Wp.newE fun H1 e1 k1 n1 g1 => Wp.jn fun j8 hj => ?_
 unfold zyb_
 obtain ⟨bot, eb⟩ := zq_ (fun _ _ _ _ _ _ _ => none) (zs_ k (DD k) j8) (show xs.length + 1 ≤ k by omega)
 rw [eb]
 have loop : ∀ (d i j : Nat) (H : AHeap), j - i ≤ d → i ≤ p → p ≤ j → j ≤ xs.length → zc_ H1 H →
   Gx.Wp (zi_ bot (d + 1) (zs_ k (DD k) j8) s (.func (.func 58) ⟨[]⟩ ⟨[]⟩) (some ⟨h.next, 0, none⟩) (s.len : Int) (i : Int) (j : Int) H) fun z => z.1.1 = (p : Int) ∧ (z.1.2 = true ↔ ∃ y, xs[p]? = some y ∧ ord y x = 0) ∧ zc_ h z.2 := fun d => by
  induction d with
  | zero =>
   intro i j H hd hi hj' hjl kp
   obtain rfl : i = p := by omega
   obtain rfl : j = i := by omega
   rw [zg_]; simp only [zs_]
   refine .ifn (by simp) ?_
   rw [hj]
   by_cases c : j < xs.length
   ·obtain ⟨y, hy⟩ := zv_ c
    obtain ⟨q, b1, b2, _⟩ := (R.keeps (k1.trans kp)).ld zG_ (by decide) hy
    have gt := kp.got (by omega) g1
    refine .ifp (by rw [R.len]; simp; omega) (.bnd b1 (.bnd b2 (.bnd (zvb_ y) (.bnd rfl (.bnd (zA_ gt rfl) (.bnd (zvb_ x) (zov_ (x := y) (y := x) hk rfl fun h' k' => .bnd rfl (.of ⟨rfl, ?_, (k1.trans kp).trans k'⟩))))))))
    simp [hy]
   ·refine .ifn (by rw [R.len]; simp; omega) (.of ⟨rfl, ?_, k1.trans kp⟩)
    simp only [Bool.false_eq_true, false_iff, not_exists, not_and]
    intro y hy
    rw [List.getElem?_eq_none (by omega)] at hy; cases hy
  | succ d ih =>
   intro i j H hd hi hj' hjl kp
   rw [zg_]; simp only [zs_]
   by_cases c : i < j
   ·obtain ⟨y, hy⟩ := zv_ (l := xs) (i := (i + j) / 2) (by omega)
    obtain ⟨q, b1, b2, _⟩ := (R.keeps (k1.trans kp)).ld zG_ (by decide) hy
    have gt := kp.got (by omega) g1
    refine .ifp (by simp; omega) ?_
    rw [half c (by omega)]
    refine .bnd b1 (.bnd b2 (.bnd (zvb_ y) (.bnd rfl (.bnd (zA_ gt rfl) (.bnd (zvb_ x) (zov_ (x := y) (y := x) hk rfl fun h' k' => .bnd rfl ?_))))))
    by_cases c2 : ord y x < 0
    ·refine .ifp (by simpa using c2) ?_
     rw [Gx.w1 (by omega)]
     refine ih _ j h' (by omega) ?_ hj' hjl (kp.trans k')
     rcases Nat.lt_or_ge ((i + j) / 2) p with g | g
     ·exact g
     ·exact absurd c2 (h2 _ y g hy)
    ·refine .ifn (by simpa using c2) ?_
     refine ih i _ h' (by omega) hi ?_ (by omega) (kp.trans k')
     rcases Nat.lt_or_ge ((i + j) / 2) p with g | g
     ·exact absurd (h1 _ y g hy) c2
     ·exact g
   ·have := ih i j H (by omega) hi hj' hjl kp
    cases d with
    | zero =>
     rw [zg_] at this; simp only [zs_] at this
     rw [if_neg (by simp; omega)] at this ⊢
     exact this
    | succ d =>
     rw [zg_] at this; simp only [zs_] at this
     rw [if_neg (by simp; omega)] at this ⊢
     exact this
 have := loop xs.length 0 xs.length H1 (by omega) (by omega) hp (Nat.le_refl _) (.refl _ _)
 have e : ((xs.length : Nat) : Int) = (s.len : Int) := by rw [R.len]
 rw [e] at this
 exact this
theorem zjt_ (hkx : xs.length + 10 ≤ k) (R : RowW 6 itC h s xs) (hl : xs.length ≤ 1000000000) (id : ByteArray) {p : Nat} (hp : p ≤ xs.length) (h1 : ∀ i y, i < p → xs[i]? = some y → cmpB y.1 id < 0) (h2 : ∀ i y, p ≤ i → xs[i]? = some y → ¬ cmpB y.1 id < 0) :
  Gx.Wp (zL_ k (DD k) s id (.func (.func 79) ⟨[]⟩ ⟨[]⟩) h) fun z => z.1.1 = (p : Int) ∧ zc_ h z.2 := by
 simp only [zL_]
 refine Wp.jn fun j7 hj => ?_
 unfold zGb_
 obtain ⟨bot, eb⟩ := zq_ (fun _ _ _ _ _ _ _ => none) (zD_ k (DD k) j7) (show xs.length + 1 ≤ k by omega)
 rw [eb]
 have fin : ∀ (H : AHeap), zc_ h H → Gx.Wp (j7 s id (.func (.func 79) ⟨[]⟩ ⟨[]⟩) (s.len : Int) (p : Int) H) fun z => z.1.1 = (p : Int) ∧ zc_ h z.2 := by
  intro H kp
  rw [hj]
  by_cases c : p < xs.length
  ·obtain ⟨y, hy⟩ := zv_ c
   obtain ⟨q, b1, b2, _⟩ := (R.keeps kp).ld zG_ (by decide) hy
   exact .ifp (by rw [R.len]; simp; omega) (.bnd b1 (.bnd b2 (.bnd (zvb_ y) (zms_ (x := y) (id := id) rfl fun h' k' => .bnd rfl (.of ⟨rfl, kp.trans k'⟩)))))
  ·exact .ifn (by rw [R.len]; simp; omega) (.of ⟨rfl, kp⟩)
 have loop : ∀ (d i j : Nat) (H : AHeap), j - i ≤ d → i ≤ p → p ≤ j → j ≤ xs.length → zc_ h H →
   Gx.Wp (zi_ bot (d + 1) (zD_ k (DD k) j7) s id (.func (.func 79) ⟨[]⟩ ⟨[]⟩) (s.len : Int) (i : Int) (j : Int) H) fun z => z.1.1 = (p : Int) ∧ zc_ h z.2 := fun d => by
  induction d with
  | zero =>
   intro i j H hd hi hj' hjl kp
   obtain rfl : i = p := by omega
   obtain rfl : j = i := by omega
   rw [zg_]; simp only [zD_]
   exact .ifn (by simp) (fin H kp)
  | succ d ih =>
   intro i j H hd hi hj' hjl kp
   rw [zg_]; simp only [zD_]
   by_cases c : i < j
   ·obtain ⟨y, hy⟩ := zv_ (l := xs) (i := (i + j) / 2) (by omega)
    obtain ⟨q, b1, b2, _⟩ := (R.keeps kp).ld zG_ (by decide) hy
    refine .ifp (by simp; omega) ?_
    rw [half c (by omega)]
    refine .bnd b1 (.bnd b2 (.bnd (zvb_ y) (zms_ (x := y) (id := id) rfl fun h' k' => .bnd rfl ?_)))
    by_cases c2 : cmpB y.1 id < 0
    ·refine .ifp (by simpa using c2) ?_
     rw [Gx.w1 (by omega)]
     refine ih _ j h' (by omega) ?_ hj' hjl (kp.trans k')
     rcases Nat.lt_or_ge ((i + j) / 2) p with g | g
     ·exact g
     ·exact absurd c2 (h2 _ y g hy)
    ·refine .ifn (by simpa using c2) ?_
     refine ih i _ h' (by omega) hi ?_ (by omega) (kp.trans k')
     rcases Nat.lt_or_ge ((i + j) / 2) p with g | g
     ·exact absurd (h1 _ y g hy) c2
     ·exact g
   ·obtain rfl : i = p := by omega
    exact .ifn (by simp; omega) (fin H kp)
 have := loop xs.length 0 xs.length h (by omega) (by omega) hp (Nat.le_refl _) (.refl _ _)
 have e : ((xs.length : Nat) : Int) = (s.len : Int) := by rw [R.len]
 rw [e] at this
 exact this
end
structure SlotB (base : Nat) (h : AHeap) (tb b : Nat) (sp : Option Nat) (cap : Nat) (R : List Value) (s : Slc) (xs : List It) : Prop where
 s : s = ⟨some ⟨b, 0, sp⟩, xs.length, cap⟩
 blk : h.get b = some (.cells (xs.flatMap itC ++ R) 57 true 0)
 one : zI_ R = true
 ge : base ≤ b
 lt : b < h.next
 ne : b ≠ tb
 le : xs.length ≤ cap
 room : cap * 6 ≤ xs.length * 6 + R.length
 sp : (sp = some 7 ∧ cap ≠ 0) ∨ (sp = some 0 ∧ cap = 0)
def zGd_ (base : Nat) (h : AHeap) (tb : Nat) (s : Slc) (xs : List It) : Prop := (s = ⟨none, 0, 0⟩ ∧ xs = []) ∨ ∃ b sp cap R, SlotB base h tb b sp cap R s xs
section
variable {base tb : Nat} {h h' : AHeap} {s : Slc} {xs : List It}
theorem zGd_.chg {S : Nat → Prop} (A : zGd_ base h tb s xs) (c : Chg S h h') (hs : ∀ a, s.a = some a → ¬ S a.block) : zGd_ base h' tb s xs := by
 rcases A with A | ⟨b, sp, cap, R, A⟩
 ·exact .inl A
 ·exact .inr ⟨b, sp, cap, R, A.s, (c.oth b A.lt (hs ⟨b, 0, sp⟩ (by rw [A.s]))).trans A.blk, A.one, A.ge, Nat.lt_of_lt_of_le A.lt c.nx, A.ne, A.le, A.room, A.sp⟩
theorem zGd_.len (A : zGd_ base h tb s xs) : s.len = xs.length := by
 rcases A with ⟨rfl, rfl⟩ | ⟨b, sp, cap, R, A⟩
 ·rfl
 ·rw [A.s]
theorem zXB_ {ys : List It} {R : List Value} {i : Nat} {x : It} (hx : ys[i]? = some x) (j : Nat) (v : Value) (hv : (itC x)[j]? = some v) : (ys.flatMap itC ++ R)[i * 6 + j]? = some v := by
 have := zlk_ zG_ hx j v hv
 rw [List.getElem?_append_left (List.getElem?_eq_some_iff.1 this).1]; exact this
theorem zGd_.row (A : zGd_ base h tb s xs) : RowW 6 itC h s xs := by
 rcases A with ⟨rfl, rfl⟩ | ⟨b, sp, cap, R, A⟩
 ·exact RowW.nil _ _ _ _ _
 ·rw [A.s]
  exact ⟨rfl, fun i x hx => ⟨_, _, _, _, _, rfl, A.lt, A.blk, fun j v hv => by rw [Nat.zero_add]; exact zXB_ hx j v hv⟩⟩
theorem zGd_.own (A : zGd_ base h tb s xs) : ∀ a, s.a = some a → base ≤ a.block ∧ a.block < h.next ∧ a.block ≠ tb := by
 rcases A with ⟨rfl, rfl⟩ | ⟨b, sp, cap, R, A⟩
 ·intro a ha; cases ha
 ·intro a ha; rw [A.s] at ha; cases ha; exact ⟨A.ge, A.lt, A.ne⟩
theorem zlc_ (ys : List It) : (ys.flatMap itC).length = ys.length * 6 := zQf_ zG_ ys
theorem zWs_ (ys : List It) : ∀ p, (ys.flatMap itC).take (p * 6) = (ys.take p).flatMap itC
 | 0 => by simp
 | p + 1 => by
  cases ys with
  | nil => simp
  | cons y ys =>
   have e : (p + 1) * 6 = (itC y).length + p * 6 := by rw [zG_]; omega
   rw [List.flatMap_cons, e, List.take_length_add_append, zWs_ ys p]
   simp
theorem zBs_ (ys : List It) : ∀ p, (ys.flatMap itC).drop (p * 6) = (ys.drop p).flatMap itC
 | 0 => by simp
 | p + 1 => by
  cases ys with
  | nil => simp
  | cons y ys =>
   have e : (p + 1) * 6 = (itC y).length + p * 6 := by rw [zG_]; omega
   rw [List.flatMap_cons, e, List.drop_length_add_append, zBs_ ys p]
   simp
theorem zBu_ (ys : List It) : zI_ (ys.flatMap itC) = true := zGA_ zep_ ys
theorem zTB_ (k : Nat) (D : za_) (A : zGd_ base h tb s xs) (hb : base ≤ h.next) (htb : tb < h.next) (x : It) {p : Nat} (hp : p ≤ xs.length) (hl : xs.length ≤ 1000000000) {vb : Nat} (hv : h.get vb = some (.cells (itC x) 57 true 0)) (_hvl : vb < h.next) (hne : ∀ a, s.a = some a → a.block ≠ vb) :
  ∃ s' h', zDb_ k D s (p : Int) ⟨some ⟨vb, 0, some 0⟩, 1, 1⟩ h = some (s', h') ∧ zGd_ base h' tb s' (xs.take p ++ x :: xs.drop p) ∧ Chg (ofS s) h h' ∧ ∀ a, s'.a = some a → h.next ≤ a.block ∨ ∃ b, s.a = some b ∧ b.block = a.block := by
 have er : rdS 6 (⟨some ⟨vb, 0, some 0⟩, 1, 1⟩ : Slc) h = some (itC x) := by
  simp only [rdS]
  rw [zkf_ hv (by simp [itC])]
  rfl
 have F : zrb_ k D = insF 6 64 57 [.string ⟨#[]⟩, .string ⟨#[]⟩, .int .i64 0, .int .i64 0, .int .i64 0, .int .i64 0] := zdd_ k D
 simp only [zDb_]
 rw [F]
 rcases A with ⟨rfl, rfl⟩ | ⟨b, sp, cap, R, A⟩
 ·have hp0 : p = 0 := by simpa using hp
  subst hp0
  have e0 : zKl_ 6 64 57 (⟨none, 0, 0⟩ : Slc) ((0 : Nat) : Int) (⟨some ⟨vb, 0, some 0⟩, 1, 1⟩ : Slc) h = none := rfl
  refine ⟨⟨some ⟨h.next, 0, some 7⟩, 1, 1⟩, h.new (.cells (itC x) 57 true 0), ?_, .inr ⟨h.next, some 7, 1, [], by simp, by simp, rfl, hb, by simp, by omega, by simp, by simp, .inl ⟨rfl, by decide⟩⟩, Chg.new _ _, fun a ha => by cases ha; exact .inl (Nat.le_refl _)⟩
  unfold insA
  rw [e0]
  unfold insF
  have e1 : Gx.subL 6 (⟨none, 0, 0⟩ : Slc) (some ((0 : Nat) : Int)) none none = some ⟨none, 0, 0⟩ := rfl
  rw [e1, Option.bind_some, if_neg (by simp), if_pos (by simp), er, Option.bind_some]
  rfl
 ·have hs := A.s
  by_cases hpe : p = xs.length
  ·-- behind all
   subst hpe
   have e0 : zKl_ 6 64 57 s ((xs.length : Nat) : Int) (⟨some ⟨vb, 0, some 0⟩, 1, 1⟩ : Slc) h = none := by
    rw [hs]
    unfold zKl_
    simp only [A.blk, hv]
    rw [if_neg]
    intro q
    have := q.2.2.2.2.2.2.1
    omega
   have e1 : Gx.subL 6 s (some ((xs.length : Nat) : Int)) none none ≠ none := by
    rw [hs]
    have hsp : spOk sp 6 = true := by rcases A.sp with ⟨rfl, _⟩ | ⟨rfl, _⟩ <;> rfl
    have := A.le
    simp only [Gx.subL, Option.getD_none, Option.getD_some, hsp, if_true]
    rw [if_pos (by omega)]
    simp
   obtain ⟨t1, e1⟩ := Option.ne_none_iff_exists'.1 e1
   rw [List.take_length, List.drop_length]
   have run : ∀ {s' : Slc} {h' : AHeap}, zl_ 6 64 57 h s (itC x) 1 = some (s', h') → insA 6 64 57 (insF 6 64 57 [.string ⟨#[]⟩, .string ⟨#[]⟩, .int .i64 0, .int .i64 0, .int .i64 0, .int .i64 0]) s ((xs.length : Nat) : Int) ⟨some ⟨vb, 0, some 0⟩, 1, 1⟩ h = some (s', h') := fun ea => by
    unfold insA
    rw [e0]
    unfold insF
    rw [e1, Option.bind_some, if_neg (by simp), if_pos (by rw [hs]; simp), er, Option.bind_some, ea]
    rfl
   have efl : (xs ++ [x]).flatMap itC = xs.flatMap itC ++ itC x := by simp
   by_cases hroom : xs.length + 1 ≤ cap
   ·-- in place
    have hRl : 6 ≤ R.length := by have := A.room; omega
    have hw : h.wrL b (xs.length * 6) (itC x) = some (h.set b (.cells (zx_ (xs.flatMap itC ++ R) (xs.length * 6) (itC x)) 57 true 0)) :=
     zAi_ A.blk (by rw [List.length_append, zlc_, zG_]; omega) rfl (by simp [itC])
    have esp : zx_ (xs.flatMap itC ++ R) (xs.length * 6) (itC x) = (xs ++ [x]).flatMap itC ++ R.drop 6 := by
     unfold zx_
     rw [zG_, ← zlc_ xs, List.take_left, List.drop_append, List.drop_of_length_le (by omega), efl]
     simp
    refine ⟨⟨some ⟨b, 0, sp⟩, xs.length + 1, cap⟩, h.set b (.cells ((xs ++ [x]).flatMap itC ++ R.drop 6) 57 true 0), run ?_, .inr ⟨b, sp, cap, R.drop 6, by simp, by simp, ?_, A.ge, by simpa using A.lt, A.ne, by simp; omega, ?_, A.sp⟩, Chg.set (.inr ⟨⟨b, 0, sp⟩, by rw [hs], rfl⟩), fun a ha => by cases ha; exact .inr ⟨⟨b, 0, sp⟩, by rw [hs], rfl⟩⟩
    ·rw [hs]
     unfold zl_
     simp only
     rw [if_pos (by omega), if_neg (by decide), Nat.zero_add, hw, esp]
     rfl
    ·exact zEm_ A.one fun v hv => List.mem_of_mem_drop hv
    ·rw [List.length_drop]; have := A.room; simp; omega
   ·-- elsewhere
    have hcap : cap = xs.length := by have := A.le; omega
    refine ⟨⟨some ⟨h.next, 0, some 7⟩, xs.length + 1, xs.length + 1⟩, (if cap = 0 then h else h.kill b).new (.cells ((xs ++ [x]).flatMap itC) 57 true 0), run ?_, .inr ⟨h.next, some 7, xs.length + 1, [], by simp, ?_, rfl, hb, ?_, by omega, by simp, by simp, .inl ⟨rfl, by omega⟩⟩, ?_, fun a ha => by cases ha; exact .inl (Nat.le_refl _)⟩
    ·rw [hs]
     unfold zl_
     simp only
     rw [if_neg (by omega), if_pos (by omega)]
     rcases A.sp with ⟨rfl, h0⟩ | ⟨rfl, h0⟩
     ·simp only [A.blk]
      rw [if_pos ⟨h0, trivial, by rw [List.length_append, zlc_]; omega, Nat.zero_le _, trivial, trivial, rfl⟩, if_neg h0, ← zlc_ xs, List.take_left, efl]
     ·have hx0 : xs = [] := List.length_eq_zero_iff.1 (by omega)
      subst hx0
      simp [AHeap.rdL, h0]
    ·split <;> simp
    ·split <;> simp
    ·by_cases h0 : cap = 0
     ·rw [if_pos h0]; exact Chg.new _ _
     ·rw [if_neg h0]; exact Chg.kill_new (.inr ⟨⟨b, 0, sp⟩, by rw [hs], rfl⟩)
  ·-- in between
   have hpl : p < xs.length := by omega
   have hcap : cap ≠ 0 := by have := A.le; omega
   have hsp : sp = some 7 := by rcases A.sp with ⟨e, _⟩ | ⟨_, e⟩; exact e; exact absurd e hcap
   subst hsp
   have htk : (xs.flatMap itC ++ R).take (xs.length * 6) = xs.flatMap itC := by rw [← zlc_ xs, List.take_left]
   have e0 : zKl_ 6 64 57 s (p : Int) (⟨some ⟨vb, 0, some 0⟩, 1, 1⟩ : Slc) h = some (xs.flatMap itC ++ R, itC x, b, vb) := by
    rw [hs]
    unfold zKl_
    simp only [A.blk, hv]
    rw [if_pos]
    refine ⟨hne ⟨b, 0, some 7⟩ (by rw [hs]), trivial, trivial, trivial, trivial, by omega, by omega, by rw [List.length_append, zlc_]; omega, trivial, by simp [itC], by decide, rfl, ?_, by omega, by decide, A.le⟩
    rw [htk]; exact zBu_ xs
   refine ⟨⟨some ⟨h.next, 0, some 7⟩, xs.length + 1, xs.length + 1⟩, (h.kill b).new (.cells ((xs.take p ++ x :: xs.drop p).flatMap itC) 57 true 0), ?_, .inr ⟨h.next, some 7, xs.length + 1, [], by simp; omega, by simp, rfl, hb, by simp, by omega, by simp; omega, by simp; omega, .inl ⟨rfl, by omega⟩⟩, Chg.kill_new (.inr ⟨⟨b, 0, some 7⟩, by rw [hs], rfl⟩), fun a ha => by cases ha; exact .inl (Nat.le_refl _)⟩
   unfold insA
   rw [e0]
   have ei : insC 6 (xs.flatMap itC ++ R) (itC x) xs.length p = (xs.take p ++ x :: xs.drop p).flatMap itC := by
    unfold insC
    rw [htk, List.take_append_of_le_length (by rw [zlc_]; omega), zWs_, zBs_]
    simp [itC]
   simp only [hs, Int.toNat_natCast, ei]
end
def Lx {α β : Type} (lt : α → α → Prop) (R : β → β → Prop) (x y : α × β) : Prop := lt x.1 y.1 ∨ x.1 = y.1 ∧ R x.2 y.2
theorem Lx.trans {α β : Type} {lt : α → α → Prop} {R : β → β → Prop} (h1 : ∀ a b c, lt a b → lt b c → lt a c) (h2 : ∀ a b c, R a b → R b c → R a c) : ∀ x y z : α × β, Lx lt R x y → Lx lt R y z → Lx lt R x z := by
 rintro ⟨a, b⟩ ⟨c, d⟩ ⟨e, f⟩ (p | ⟨p, p'⟩) (q | ⟨q, q'⟩)
 ·exact .inl (h1 _ _ _ p q)
 ·simp only at q p; subst q; exact .inl p
 ·simp only at q p; subst p; exact .inl q
 ·simp only at q p; subst p; subst q; exact .inr ⟨rfl, h2 _ _ _ p' q'⟩
theorem Lx.total {α β : Type} {lt : α → α → Prop} {R : β → β → Prop} (h1 : ∀ a b, lt a b ∨ a = b ∨ lt b a) (h2 : ∀ a b, R a b ∨ a = b ∨ R b a) : ∀ x y : α × β, Lx lt R x y ∨ x = y ∨ Lx lt R y x := by
 rintro ⟨a, b⟩ ⟨c, d⟩
 rcases h1 a c with h | h | h
 ·exact .inl (.inl h)
 ·subst h
  rcases h2 b d with g | g | g
  ·exact .inl (.inr ⟨rfl, g⟩)
  ·subst g; exact .inr (.inl rfl)
  ·exact .inr (.inr (.inr ⟨rfl, g⟩))
 ·exact .inr (.inr (.inl h))
def ltB (a b : ByteArray) : Prop := bl a < bl b
theorem zSo_ (a b c : ByteArray) (h1 : ltB a b) (h2 : ltB b c) : ltB a c := List.lt_trans h1 h2
theorem zPn_ (a b : ByteArray) : ltB a b ∨ a = b ∨ ltB b a := by
 by_cases c : bl a < bl b
 ·exact .inl c
 ·by_cases d : bl b < bl a
  ·exact .inr (.inr d)
  ·exact .inr (.inl (zSf_ (List.le_antisymm (List.not_lt.1 d) (List.not_lt.1 c))))
def ltZ (a b : Int) : Prop := a < b
theorem zrk_ (a b c : Int) (h1 : ltZ a b) (h2 : ltZ b c) : ltZ a c := Int.lt_trans h1 h2
theorem zAk_ (a b : Int) : ltZ a b ∨ a = b ∨ ltZ b a := by unfold ltZ; omega
def keyI (x : It) : ByteArray × ByteArray × Int × Int × Int × Int := (x.1, x.2.1, x.2.2.2.1, x.2.2.2.2.1, x.2.2.2.2.2, x.2.2.1)
theorem zAu_ {x y : It} (h : keyI x = keyI y) : x = y := by
 obtain ⟨a, b, c, d, e, f⟩ := x
 obtain ⟨a', b', c', d', e', f'⟩ := y
 simp only [keyI, Prod.mk.injEq] at h
 obtain ⟨rfl, rfl, rfl, rfl, rfl, rfl⟩ := h
 rfl
def ltI : ByteArray × ByteArray × Int × Int × Int × Int → ByteArray × ByteArray × Int × Int × Int × Int → Prop := Lx ltB (Lx ltB (Lx ltZ (Lx ltZ (Lx ltZ ltZ))))
theorem zLi_ (x y : It) : zQ_ x y = true ↔ ltI (keyI x) (keyI y) := by
 rw [zUz_]
 unfold zNv_ ltI Lx keyI ltB ltZ
 simp only
 by_cases c1 : x.1 = y.1
 rotate_left
 ·simp [c1]
 by_cases c2 : x.2.1 = y.2.1
 rotate_left
 ·simp [c1, c2, List.lt_irrefl]
 by_cases c3 : x.2.2.2.1 = y.2.2.2.1
 rotate_left
 ·simp [c1, c2, c3, List.lt_irrefl]
 by_cases c4 : x.2.2.2.2.1 = y.2.2.2.2.1
 rotate_left
 ·simp [c1, c2, c3, c4, List.lt_irrefl]
 by_cases c5 : x.2.2.2.2.2 = y.2.2.2.2.2
 rotate_left
 ·simp [c1, c2, c3, c4, c5, List.lt_irrefl]
 simp [c1, c2, c3, c4, c5, List.lt_irrefl]
theorem zvi_ {x y z : It} (h1 : zQ_ x y = true) (h2 : zQ_ y z = true) : zQ_ x z = true := by
 rw [zLi_] at *
 exact Lx.trans zSo_ (Lx.trans zSo_ (Lx.trans zrk_ (Lx.trans zrk_ (Lx.trans zrk_ zrk_)))) _ _ _ h1 h2
theorem zGw_ (x y : It) : zQ_ x y = true ∨ x = y ∨ zQ_ y x = true := by
 rw [zLi_, zLi_]
 rcases Lx.total zPn_ (Lx.total zPn_ (Lx.total zAk_ (Lx.total zAk_ (Lx.total zAk_ zAk_)))) (keyI x) (keyI y) with h | h | h
 ·exact .inl h
 ·exact .inr (.inl (zAu_ h))
 ·exact .inr (.inr h)
theorem zAq_ {x y : It} : ord x y = 0 ↔ x = y := by
 constructor
 ·intro h
  have e : ∀ (c : Int) (l : List Int), orL (c :: l) = 0 → c = 0 ∧ orL l = 0 := fun c l h => by
   simp only [orL] at h
   by_cases hc : c = 0
   ·simp [hc] at h; exact ⟨hc, h⟩
   ·simp [hc] at h
  unfold ord ordL at h
  obtain ⟨a1, h⟩ := e _ _ h
  obtain ⟨a2, h⟩ := e _ _ h
  obtain ⟨a3, h⟩ := e _ _ h
  obtain ⟨a4, h⟩ := e _ _ h
  obtain ⟨a5, h⟩ := e _ _ h
  obtain ⟨a6, h⟩ := e _ _ h
  rw [zso_] at a1 a2
  rw [zLo_] at a3 a4 a5 a6
  exact zAu_ (by simp [keyI, a1, a2, a3, a4, a5, a6])
 ·rintro rfl
  have b : ∀ a : ByteArray, cmpB a a = 0 := fun a => zso_.2 rfl
  have i : ∀ a : Int, cmpI a a = 0 := fun a => zLo_.2 rfl
  simp [ord, ordL, orL, b, i]
theorem zuh_ (x : It) : zQ_ x x = false := by
 have : ord x x = 0 := zAq_.2 rfl
 simp [zQ_, this]
theorem zWp_ {x y : It} (h : zQ_ x y = true) : zQ_ y x = false := by
 cases c : zQ_ y x
 ·rfl
 ·have := zvi_ h c
  rw [zuh_] at this; cases this
def zWb_ (xs : List It) : Prop := xs.Pairwise fun x y => zQ_ x y = true
def posI (x : It) (xs : List It) : Nat := (xs.takeWhile fun y => zQ_ y x).length
open Classical in
noncomputable def putI (x : It) (xs : List It) : List It := if x ∈ xs then xs else (xs.takeWhile fun y => zQ_ y x) ++ x :: xs.dropWhile fun y => zQ_ y x
theorem zfx_ (x : It) (xs : List It) : posI x xs ≤ xs.length := by
 unfold posI
 exact (List.takeWhile_sublist _).length_le
theorem zSt_ (x : It) (xs : List It) : xs.take (posI x xs) = xs.takeWhile fun y => zQ_ y x := by
 unfold posI
 induction xs with
 | nil => rfl
 | cons y xs ih =>
  by_cases c : zQ_ y x = true
  ·simp [c, ih]
  ·simp [c]
theorem zyu_ (x : It) (xs : List It) : xs.drop (posI x xs) = xs.dropWhile fun y => zQ_ y x := by
 unfold posI
 induction xs with
 | nil => rfl
 | cons y xs ih =>
  by_cases c : zQ_ y x = true
  ·simp [c, ih]
  ·simp [c]
theorem zek_ {x : It} : ∀ {xs : List It} {i : Nat} {y : It}, i < posI x xs → xs[i]? = some y → zQ_ y x = true
 | [], i, y, h, _ => by simp [posI] at h
 | z :: xs, i, y, h, hy => by
  unfold posI at h
  by_cases c : zQ_ z x = true
  ·simp only [List.takeWhile_cons, c, if_true, List.length_cons] at h
   cases i with
   | zero => simp at hy; subst hy; exact c
   | succ i => exact zek_ (xs := xs) (i := i) (by unfold posI; omega) (by simpa using hy)
  ·simp [c] at h
theorem zjj_ {x : It} : ∀ {xs : List It} {i : Nat} {y : It}, zWb_ xs → posI x xs ≤ i → xs[i]? = some y → zQ_ y x = false
 | [], i, y, _, _, hy => by simp at hy
 | z :: xs, i, y, hr, h, hy => by
  unfold posI at h
  unfold zWb_ at hr
  rw [List.pairwise_cons] at hr
  by_cases c : zQ_ z x = true
  ·simp only [List.takeWhile_cons, c, if_true, List.length_cons] at h
   cases i with
   | zero => omega
   | succ i => exact zjj_ (xs := xs) (i := i) hr.2 (by unfold posI; omega) (by simpa using hy)
  ·have c' : zQ_ z x = false := by simpa using c
   cases i with
   | zero => simp at hy; subst hy; exact c'
   | succ i =>
    have hz := hr.1 y (List.mem_of_getElem? (by simpa using hy))
    cases d : zQ_ y x
    ·rfl
    ·rw [zvi_ hz d] at c'; cases c'
theorem zrA_ {x : It} {xs : List It} (hr : zWb_ xs) : (∃ y, xs[posI x xs]? = some y ∧ ord y x = 0) ↔ x ∈ xs := by
 constructor
 ·rintro ⟨y, hy, h⟩
  rw [zAq_] at h
  subst h
  exact List.mem_of_getElem? hy
 ·intro hx
  obtain ⟨i, hi, e⟩ := List.getElem_of_mem hx
  have hx' : xs[i]? = some x := by rw [← e]; exact List.getElem?_eq_getElem hi
  have h1 : posI x xs ≤ i := Nat.le_of_not_lt fun q => by
   have := zek_ q hx'
   rw [zuh_] at this; cases this
  have hlt : posI x xs < xs.length := by omega
  obtain ⟨y, hy⟩ := zv_ hlt
  refine ⟨y, hy, zAq_.2 ?_⟩
  by_cases e2 : posI x xs = i
  ·rw [e2, hx'] at hy; cases hy; rfl
  ·have hlt2 : posI x xs < i := by omega
   have hyx : zQ_ y x = true := by
    have hp := List.pairwise_iff_getElem.1 hr (posI x xs) i hlt (by omega) hlt2
    have e3 : xs[posI x xs] = y := (List.getElem?_eq_some_iff.1 hy).2
    rw [e3, e] at hp; exact hp
   rw [zjj_ hr (Nat.le_refl _) hy] at hyx; cases hyx
theorem zdD_ {x y : It} {xs : List It} : y ∈ putI x xs ↔ y = x ∨ y ∈ xs := by
 unfold putI
 split
 ·rename_i h
  constructor
  ·exact .inr
  ·rintro (rfl | h')
   ·exact h
   ·exact h'
 ·have e := List.takeWhile_append_dropWhile (p := fun y => zQ_ y x) (l := xs)
  constructor
  ·intro h
   rcases List.mem_append.1 h with h | h
   ·exact .inr ((List.takeWhile_sublist _).subset h)
   ·rcases List.mem_cons.1 h with h | h
    ·exact .inl h
    ·exact .inr ((List.dropWhile_sublist _).subset h)
  ·rintro (rfl | h)
   ·simp
   ·rw [← e] at h
    rcases List.mem_append.1 h with h | h
    ·exact List.mem_append_left _ h
    ·exact List.mem_append_right _ (List.mem_cons_of_mem _ h)
theorem ziA_ {x : It} {xs : List It} (hr : zWb_ xs) : zWb_ (putI x xs) := by
 unfold putI
 split
 ·exact hr
 ·rename_i hx
  have ht : ∀ y ∈ xs.takeWhile (fun y => zQ_ y x), zQ_ y x = true := fun y hy => by
   rw [← zSt_] at hy
   obtain ⟨i, hi, e⟩ := List.getElem_of_mem hy
   have : (xs.take (posI x xs))[i]? = some y := by rw [← e]; exact List.getElem?_eq_getElem hi
   rw [List.getElem?_take] at this
   split at this
   ·rename_i hlt; exact zek_ hlt this
   ·cases this
  have hd : ∀ y ∈ xs.dropWhile (fun y => zQ_ y x), zQ_ x y = true := fun y hy => by
   rw [← zyu_] at hy
   obtain ⟨i, hi, e⟩ := List.getElem_of_mem hy
   have h1 : (xs.drop (posI x xs))[i]? = some y := by rw [← e]; exact List.getElem?_eq_getElem hi
   rw [List.getElem?_drop] at h1
   have h2 := zjj_ hr (Nat.le_add_right _ _) h1
   rcases zGw_ x y with h | h | h
   ·exact h
   ·subst h; exact absurd (List.mem_of_getElem? h1) hx
   ·rw [h] at h2; cases h2
  unfold zWb_ at hr ⊢
  rw [List.pairwise_append, List.pairwise_cons]
  refine ⟨hr.sublist (List.takeWhile_sublist _), ⟨hd, hr.sublist (List.dropWhile_sublist _)⟩, fun a ha b hb => ?_⟩
  rcases List.mem_cons.1 hb with rfl | hb
  ·exact ht a ha
  ·exact zvi_ (ht a ha) (hd b hb)
theorem zkx_ (x : It) (xs : List It) : (putI x xs).length ≤ xs.length + 1 := by
 unfold putI
 split
 ·omega
 ·have e := congrArg List.length (List.takeWhile_append_dropWhile (p := fun y => zQ_ y x) (l := xs))
  simp only [List.length_append, List.length_cons] at e ⊢
  omega
theorem zmz_ {xs ys : List It} (h1 : zWb_ xs) (h2 : zWb_ ys) (h : ∀ x, x ∈ xs ↔ x ∈ ys) : xs = ys := by
 have nd : ∀ {l : List It}, zWb_ l → l.Nodup := fun hr => List.Pairwise.imp (fun {a b} hab e => by subst e; rw [zuh_] at hab; cases hab) hr
 have pm : xs.Perm ys := (List.perm_ext_iff_of_nodup (nd h1) (nd h2)).2 h
 exact pm.eq_of_pairwise (fun a b _ _ hab hba => by rw [zWp_ hab] at hba; cases hba) h1 h2
def idx (id : ByteArray) : Nat := match bl id with
 | [] => 0
 | b :: _ => b.toNat
theorem zIi_ (id : ByteArray) : idx id < 256 := by
 unfold idx
 split
 ·omega
 ·rename_i b _ _; exact b.toNat_lt
def tabC (sl : Nat → Slc) : List Value := (List.range 256).map fun i => .slice (sl i).a (sl i).len (sl i).cap
theorem zWg_ (sl : Nat → Slc) : (tabC sl).length = 256 := by simp [tabC]
theorem zCd_ (sl : Nat → Slc) {i : Nat} (hi : i < 256) : (tabC sl)[i]? = some (.slice (sl i).a (sl i).len (sl i).cap) := by simp [tabC, hi]
def upd {α : Type} (f : Nat → α) (i : Nat) (x : α) : Nat → α := fun j => if j = i then x else f j
theorem zDB_ (sl : Nat → Slc) {i : Nat} (s : Slc) : (tabC sl).set i (.slice s.a s.len s.cap) = tabC (upd sl i s) := by
 apply List.ext_getElem?
 intro j
 rw [List.getElem?_set, zWg_]
 by_cases hj : j < 256
 ·rw [zCd_ _ hj, zCd_ _ hj]
  by_cases e : i = j
  ·subst e; simp [hj, upd]
  ·simp [e, upd, Ne.symm e]
 ·rw [List.getElem?_eq_none (l := tabC sl) (by rw [zWg_]; omega), List.getElem?_eq_none (l := tabC _) (by rw [zWg_]; omega)]
  split <;> simp_all
def TOwn (tb : Nat) (sl : Nat → Slc) (y : Nat) : Prop := y = tb ∨ ∃ i, i < 256 ∧ ∃ a, (sl i).a = some a ∧ a.block = y
structure Tab (base : Nat) (h : AHeap) (tb : Nat) (sl : Nat → Slc) (F : Nat → List It) : Prop where
 blk : h.get tb = some (.cells (tabC sl) 84 true 0)
 lt : tb < h.next
 ge : base ≤ tb
 slot : ∀ i, i < 256 → zGd_ base h tb (sl i) (F i)
 apart : ∀ i j a b, i < 256 → j < 256 → i ≠ j → (sl i).a = some a → (sl j).a = some b → a.block ≠ b.block
section
variable {base tb : Nat} {h h' : AHeap} {sl : Nat → Slc} {F : Nat → List It}
theorem Tab.own (T : Tab base h tb sl F) {y : Nat} (hy : TOwn tb sl y) : base ≤ y ∧ y < h.next := by
 rcases hy with rfl | ⟨i, hi, a, ha, rfl⟩
 ·exact ⟨T.ge, T.lt⟩
 ·have := (T.slot i hi).own a ha; exact ⟨this.1, this.2.1⟩
theorem Tab.chg {S : Nat → Prop} (T : Tab base h tb sl F) (c : Chg S h h') (hs : ∀ y, TOwn tb sl y → ¬ S y) : Tab base h' tb sl F :=
 ⟨(c.oth tb T.lt (hs tb (.inl rfl))).trans T.blk, Nat.lt_of_lt_of_le T.lt c.nx, T.ge, fun i hi => (T.slot i hi).chg c fun a ha => hs _ (.inr ⟨i, hi, a, ha, rfl⟩), T.apart⟩
theorem Tab.keeps (T : Tab base h tb sl F) (c : zc_ h h') : Tab base h' tb sl F := T.chg c fun _ _ f => f
theorem Tab.ext {G : Nat → List It} (T : Tab base h tb sl F) (e : ∀ i, i < 256 → F i = G i) : Tab base h tb sl G := ⟨T.blk, T.lt, T.ge, fun i hi => e i hi ▸ T.slot i hi, T.apart⟩
theorem zSB_ : List.replicate 256 (Value.slice none 0 0) = tabC fun _ => ⟨none, 0, 0⟩ := by
 apply List.ext_getElem?
 intro j
 rw [List.getElem?_replicate]
 by_cases hj : j < 256
 ·rw [zCd_ _ hj, if_pos hj]
 ·rw [if_neg hj, List.getElem?_eq_none (by rw [zWg_]; omega)]
theorem zPu_ (k : Nat) (D : za_) (h : AHeap) : ∃ h', zrh_ k D h = some (some ⟨h.next, 0, none⟩, h') ∧ zc_ h h' ∧ Tab h.next h' h.next (fun _ => ⟨none, 0, 0⟩) (fun _ => []) := by
 unfold zrh_
 rw [zSB_]
 exact ⟨_, rfl, zc_.new h _, by simp, by simp, Nat.le_refl _, fun i _ => .inl ⟨rfl, rfl⟩, fun i j a b _ _ _ ha => by cases ha⟩
theorem zps_ (k : Nat) (D : za_) (tb : Nat) (id : ByteArray) (h : AHeap) : zid_ k D (some ⟨tb, 0, none⟩) id h = some (some ⟨tb, idx id, none⟩, h) := by
 simp only [zid_, zEj_]
 by_cases c : id = ⟨#[]⟩
 ·subst c
  rw [if_pos (by simp)]
  rfl
 ·rw [if_neg (by simp [c])]
  obtain ⟨b, t, e⟩ : ∃ b t, bl id = b :: t := List.exists_cons_of_ne_nil fun e => c (zSf_ (by rw [e]; rfl))
  have e1 : idxS id ((0 : Nat) : Int) = some (b.toNat : Int) := zof_ (by rw [e]; rfl)
  have e2 : idx id = b.toNat := by unfold idx; rw [e]
  have e3 : idxA 256 1 ⟨tb, 0 + 0, none⟩ (b.toNat : Int) = some ⟨tb, 0 + 0 + b.toNat, none⟩ := zJD_ b.toNat_lt
  refine bnd e1 (bnd rfl (bnd e3 ?_))
  rw [e2]; simp
theorem Tab.slotT {s' : Slc} {xs : List It} {i : Nat} (T : Tab base h tb sl F) (hi : i < 256) (c : Chg (ofS (sl i)) h h') (A : zGd_ base h' tb s' xs) (hs : ∀ a, s'.a = some a → h.next ≤ a.block ∨ ∃ b, (sl i).a = some b ∧ b.block = a.block) :
  ∃ h2, st1 ⟨tb, i, none⟩ (.slice s'.a s'.len s'.cap) h' = some h2 ∧ Tab base h2 tb (upd sl i s') (upd F i xs) ∧ Chg (TOwn tb sl) h h2 ∧ ∀ y, TOwn tb (upd sl i s') y → h.next ≤ y ∨ TOwn tb sl y := by
 have htb : ¬ ofS (sl i) tb := fun ⟨a, ha, e⟩ => ((T.slot i hi).own a ha).2.2 e.symm
 have gb : h'.get tb = some (.cells (tabC sl) 84 true 0) := (c.oth tb T.lt htb).trans T.blk
 have e1 := zpc_ (sp := none) (v := .slice s'.a s'.len s'.cap) gb (o := i) (by rw [zWg_]; exact hi) rfl
 rw [zDB_] at e1
 have nx := c.nx
 have c2 : Chg (· = tb) h' (h'.set tb (.cells (tabC (upd sl i s')) 84 true 0)) := Chg.set (.inr rfl)
 have own' : ∀ j, j < 256 → j ≠ i → ∀ a, (sl j).a = some a → ∀ b, s'.a = some b → a.block ≠ b.block := fun j hj hji a ha b hb => by
  have o1 := (T.slot j hj).own a ha
  rcases hs b hb with h1 | ⟨b2, h1, h2⟩
  ·omega
  ·rw [← h2]; exact T.apart j i a b2 hj hi hji ha h1
 refine ⟨_, e1, ⟨by simp, Nat.lt_of_lt_of_le T.lt nx, T.ge, fun j hj => ?_, fun j l a b hj hl hjl ha hb => ?_⟩, ?_, ?_⟩
 ·by_cases e : j = i
  ·subst e
   simp only [upd, if_true]
   exact A.chg c2 fun a ha e2 => (A.own a ha).2.2 e2
  ·simp only [upd, e, if_false]
   refine ((T.slot j hj).chg c fun a ha ⟨b, hb, e2⟩ => T.apart j i a b hj hi e ha hb e2).chg c2 fun a ha e2 => ((T.slot j hj).own a ha).2.2 e2
 ·simp only [upd] at ha hb
  by_cases e : j = i
  ·have el : l ≠ i := fun q => hjl (e.trans q.symm)
   rw [if_pos e] at ha; rw [if_neg el] at hb
   exact Ne.symm (own' l hl el b hb a ha)
  ·rw [if_neg e] at ha
   by_cases e2 : l = i
   ·rw [if_pos e2] at hb; exact own' j hj e a ha b hb
   ·rw [if_neg e2] at hb; exact T.apart j l a b hj hl hjl ha hb
 ·refine Chg.beh (T := (· = tb)) (c.wk fun y _ ⟨a, ha, e⟩ => .inr ⟨i, hi, a, ha, e.symm⟩) c2 fun y _ e => .inl e
 ·rintro y (rfl | ⟨j, hj, a, ha, rfl⟩)
  ·exact .inr (.inl rfl)
  ·simp only [upd] at ha
   by_cases e : j = i
   ·rw [if_pos e] at ha
    rcases hs a ha with h1 | ⟨b, h1, h2⟩
    ·exact .inl h1
    ·exact .inr (.inr ⟨i, hi, b, h1, h2⟩)
   ·rw [if_neg e] at ha
    exact .inr (.inr ⟨j, hj, a, ha, rfl⟩)
end
noncomputable def addF (F : Nat → List It) (x : It) : Nat → List It := upd F (idx x.1) (putI x (F (idx x.1)))
def zgc_ (F : Nat → List It) : Prop := ∀ i, i < 256 → zWb_ (F i)
theorem zJy_ {F : Nat → List It} (hr : zgc_ F) (x : It) : zgc_ (addF F x) := fun i hi => by
 unfold addF upd
 split
 ·exact ziA_ (hr _ (zIi_ _))
 ·exact hr i hi
def MaxT (F : Nat → List It) (n : Nat) : Prop := ∀ i, i < 256 → (F i).length ≤ n
theorem zOA_ {F : Nat → List It} {n : Nat} (hm : MaxT F n) (x : It) : MaxT (addF F x) (n + 1) := fun i hi => by
 unfold addF upd
 split
 ·exact Nat.le_trans (zkx_ _ _) (by have := hm _ (zIi_ x.1); omega)
 ·have := hm i hi; omega
noncomputable def addL (F : Nat → List It) (xs : List It) : Nat → List It := xs.foldl addF F
theorem zKc_ : ∀ {xs : List It} {F : Nat → List It}, zgc_ F → zgc_ (addL F xs)
 | [], _, h => h
 | x :: xs, _, h => zKc_ (xs := xs) (zJy_ h x)
theorem zFj_ : ∀ {xs : List It} {F : Nat → List It} {n : Nat}, MaxT F n → MaxT (addL F xs) (n + xs.length)
 | [], _, _, h => h
 | x :: xs, F, n, h => by
  have := zFj_ (xs := xs) (zOA_ h x)
  rw [List.length_cons, show n + (xs.length + 1) = n + 1 + xs.length by omega]; exact this
section
variable {k base tb : Nat} {h : AHeap} {sl : Nat → Slc} {F : Nat → List It} {s : Slc} {xs : List It}
theorem zKD_ (hk : 100 ≤ k) (bot) (j : AHeap → Option (Int × AHeap)) {Q : Int × AHeap → Prop} (R : RowW 6 itC h s xs) {N : Nat} (hN : N + xs.length ≤ 1000000000) (hkN : N + xs.length + 10 ≤ k) (hs : ∀ a, s.a = some a → ¬ TOwn tb sl a.block) (hb : base ≤ h.next)
  (hj : ∀ H sl', Tab base H tb sl' (addL F xs) → Chg (TOwn tb sl) h H → (∀ y, TOwn tb sl' y → h.next ≤ y ∨ TOwn tb sl y) → Gx.Wp (j H) Q) (_T : Tab base h tb sl F) (hr : zgc_ F) (hm : MaxT F N) :
  ∀ (d i : Nat) (H : AHeap) (sl' : Nat → Slc), i + d = xs.length → Tab base H tb sl' (addL F (xs.take i)) → Chg (TOwn tb sl) h H → (∀ y, TOwn tb sl' y → h.next ≤ y ∨ TOwn tb sl y) →
   Gx.Wp (zi_ bot (d + 1) (zsb_ k (DD k) j) (some ⟨tb, 0, none⟩) s (s.len : Int) (i : Int) H) Q := by
 intro d
 induction d with
 | zero =>
  intro i H sl' hd T' c ho
  obtain rfl : i = xs.length := by omega
  rw [List.take_length] at T'
  rw [zg_]; simp only [zsb_]
  exact .ifn (by rw [R.len]; simp) (hj H sl' T' c ho)
 | succ d ih =>
  intro i H sl' hd T' c ho
  rw [zg_]; simp only [zsb_]
  obtain ⟨x, hx⟩ := zv_ (l := xs) (i := i) (by omega)
  have RH : RowW 6 itC H s xs := R.chg c hs
  obtain ⟨q, b1, b2, _⟩ := RH.ld zG_ (by decide) hx
  have nH := c.nx
  have hi256 := zIi_ x.1
  refine .ifp (by rw [R.len]; simp; omega) (Gx.Wp.jn fun j18 h18 => .bnd b1 (.bnd b2 (.bnd (zvb_ x) (Wp.newE fun H1 e1 k1 n1 g1 => Wp.stL g1 rfl rfl rfl (by decide) fun H2 c2 n2 g2 => ?_))))
  have k2 : zc_ H H2 := k1.keepsS c2 fun y hy => by subst hy; omega
  have gx : H2.get H.next = some (.cells (itC x) 57 true 0) := g2
  have T2 := T'.keeps k2
  have hrx : zgc_ (addL F (xs.take i)) := zKc_ hr
  have hmx : MaxT (addL F (xs.take i)) (N + i) := by have := zFj_ (xs := xs.take i) hm; rwa [List.length_take, Nat.min_eq_left (by omega)] at this
  have S2 := T2.slot _ hi256
  have hln := hmx _ hi256
  have nx : addL F (xs.take (i + 1)) = addF (addL F (xs.take i)) x := by
   rw [show xs.take (i + 1) = xs.take i ++ [x] by rw [List.take_add_one, hx]; rfl]
   unfold addL; rw [List.foldl_append]; rfl
  have next : ∀ (H' : AHeap) (sl2 : Nat → Slc), Tab base H' tb sl2 (addL F (xs.take (i + 1))) → Chg (TOwn tb sl) h H' → (∀ y, TOwn tb sl2 y → h.next ≤ y ∨ TOwn tb sl y) → Gx.Wp (j18 (some ⟨tb, 0, none⟩) s (s.len : Int) (i : Int) H') Q := fun H' sl2 t1 t2 t3 => by
   rw [h18]
   dsimp only
   rw [Gx.w1 (by omega)]
   exact ih (i + 1) H' sl2 (by omega) t1 t2 t3
  refine .bnd (show ldS ⟨H.next, 0, none⟩ H2 = some x.1 by simp [ldS, AHeap.rd1, gx, itC, decS]) (.bnd (zps_ k _ tb x.1 H2) (.bnd rfl (.bnd (zB_ T2.blk (zCd_ _ hi256)) (.bnd (zA_ gx rfl) (.bnd (zvb_ x) ?_)))))
  refine .call (zHw_ hk (by omega) S2.row (by omega) x (zfx_ x _) (fun i2 y hi2 hy => by have := zek_ hi2 hy; simpa [zQ_] using this) (fun i2 y hi2 hy => by have := zjj_ (hrx _ hi256) hi2 hy; simpa [zQ_] using this)) fun r30 ⟨q1, q2, k3⟩ => ?_
  rw [zrA_ (hrx _ hi256)] at q2
  have k3' := k2.trans k3
  have T3 := T2.keeps k3
  have gx3 := k3.got (by omega) gx
  by_cases hin : x ∈ addL F (xs.take i) (idx x.1)
  ·have : r30.1.2 = true := q2.2 hin
   refine .ifn (by simp [this]) (next r30.2 sl' ?_ (Chg.beh c k3' fun y _ f => f.elim) ho)
   rw [nx]
   refine T3.ext fun l hl => ?_
   unfold addF upd
   split
   ·rename_i e; rw [e]; unfold putI; rw [if_pos hin]
   ·rfl
  ·have : r30.1.2 = false := by cases e : r30.1.2; rfl; exact absurd (q2.1 e) hin
   refine .ifp (by simp [this]) (.bnd (zA_ gx3 rfl) (.bnd (zvb_ x) (Wp.newE fun H4 e4 k4 n4 g4 => ?_)))
   have T4 := T3.keeps k4
   have gx4 : H4.get r30.2.next = some (.cells (itC x) 57 true 0) := g4
   have l4 := zB_ (sp := none) T4.blk (zCd_ _ hi256)
   have l3 := zB_ (sp := none) T3.blk (zCd_ _ hi256)
   have n3 := k3'.nx
   refine .bnd rfl (.bnd l4 (.gp (ssw1 (by rw [l3]; rfl)) ?_))
   have S4 := T4.slot _ hi256
   obtain ⟨s', h5, a1, A5, c5, d5⟩ := zTB_ k (DD k) S4 (by omega) T4.lt x (zfx_ x _) (by omega) gx4 (by omega) (fun a ha => by have := ((T3.slot _ hi256).own a ha).2.1; omega)
   rw [q1]
   refine .bnd a1 (.bnd rfl ?_)
   obtain ⟨h6, a6, T6, c6, o6⟩ := T4.slotT hi256 c5 A5 d5
   refine .bnd a6 (next h6 (upd sl' (idx x.1) s') ?_ ?_ ?_)
   ·rw [nx]
    refine T6.ext fun l hl => ?_
    unfold addF upd
    split
    ·unfold putI; rw [if_neg hin, zSt_, zyu_]
    ·rfl
   ·refine Chg.beh c (Chg.trans (S := TOwn tb sl') ((k3'.trans k4).keeps) c6) fun y hy z => ?_
    rcases ho y z with h1 | h1
    ·omega
    ·exact h1
   ·intro y hy
    rcases o6 y hy with h1 | h1
    ·have := k4.nx; left; omega
    ·exact ho y h1
theorem zLv_ (hk : 100 ≤ k) (R : RowW 6 itC h s xs) {N : Nat} (hN : N + xs.length ≤ 1000000000) (hkN : N + xs.length + 10 ≤ k) (hs : ∀ a, s.a = some a → ¬ TOwn tb sl a.block) (hb : base ≤ h.next) (T : Tab base h tb sl F) (hr : zgc_ F) (hm : MaxT F N) (hok : ∀ x ∈ xs, okI x) :
  Gx.Wp (zQb_ k (DD k) (some ⟨tb, 0, none⟩) s h) fun z => z.1 = 0 ∧ ∃ sl', Tab base z.2 tb sl' (addL F xs) ∧ Chg (TOwn tb sl) h z.2 ∧ ∀ y, TOwn tb sl' y → h.next ≤ y ∨ TOwn tb sl y := by
 simp only [zQb_]
 refine Gx.Wp.jn fun j4 h4 => ?_
 unfold zrf_
 obtain ⟨bot, eb⟩ := zq_ (fun _ _ _ _ _ _ => none) (zxb_ k (DD k) j4) (show xs.length + 1 ≤ k by omega)
 rw [eb]
 have loop : ∀ (d i : Nat) (H : AHeap), i + d = xs.length → zc_ h H → Gx.Wp (zi_ bot (d + 1) (zxb_ k (DD k) j4) (some ⟨tb, 0, none⟩) s s (s.len : Int) (i : Int) H) fun z => z.1 = 0 ∧ ∃ sl', Tab base z.2 tb sl' (addL F xs) ∧ Chg (TOwn tb sl) h z.2 ∧ ∀ y, TOwn tb sl' y → h.next ≤ y ∨ TOwn tb sl y := fun d => by
  induction d with
  | zero =>
   intro i H hd kp
   obtain rfl : i = xs.length := by omega
   rw [zg_]; simp only [zxb_]
   refine .ifn (by rw [R.len]; simp) ?_
   rw [h4]
   refine Gx.Wp.jn fun j6 h6 => ?_
   unfold ztf_
   obtain ⟨bot2, eb2⟩ := zq_ (fun _ _ _ _ _ => none) (zsb_ k (DD k) j6) (show xs.length + 1 ≤ k by omega)
   rw [eb2]
   have nH := kp.nx
   exact zKD_ hk bot2 j6 (R.keeps kp) hN hkN hs (by omega) (fun H2 sl' t1 t2 t3 => by rw [h6]; exact .of ⟨rfl, sl', t1, Chg.trans kp.keeps t2, fun y hy => by rcases t3 y hy with q | q; left; omega; exact .inr q⟩) (T.keeps kp) hr hm xs.length 0 H sl (by omega) (T.keeps kp) (.refl _ _) (fun y hy => .inr hy)
  | succ d ih =>
   intro i H hd kp
   rw [zg_]; simp only [zxb_]
   obtain ⟨x, hx⟩ := zv_ (l := xs) (i := i) (by omega)
   obtain ⟨q, b1, b2, _⟩ := (R.keeps kp).ld zG_ (by decide) hx
   refine .ifp (by rw [R.len]; simp; omega) (.bnd b1 (.bnd b2 (.bnd (zvb_ x) (Wp.newE fun H1 e1 k1 n1 g1 => Wp.stL g1 rfl rfl rfl (by decide) fun H2 c2 n2 g2 => ?_))))
   have k2 : zc_ h H2 := kp.trans (k1.keepsS c2 fun y hy => by subst hy; omega)
   have gx : H2.get H.next = some (.cells (itC x) 57 true 0) := g2
   refine .bnd (zA_ gx rfl) (.bnd (zvb_ x) (.call (zem_ k _ x H2) fun r ⟨q1, q2⟩ => ?_))
   have h0 : r.1 = 0 := by rw [q1]; unfold chkI; rw [if_pos (hok x (zll_ hx))]
   refine .ifn (by simp [h0]) ?_
   rw [Gx.w1 (by omega)]
   exact ih (i + 1) r.2 (by omega) (k2.trans q2)
 exact loop xs.length 0 h (by omega) (.refl _ _)
end
abbrev Pl := ByteArray × Int × Int × Int × Int
def plC (x : Pl) : List Value := [.string x.1, .int .i64 x.2.1, .int .i64 x.2.2.1, .int .i64 x.2.2.2.1, .int .i64 x.2.2.2.2]
theorem znp_ (x : Pl) : (plC x).length = 5 := rfl
theorem zHC_ (x : Pl) : zI_ (plC x) = true := rfl
theorem zcp_ (x : Pl) : decC [.s, .i .i64, .i .i64, .i .i64, .i .i64] (plC x) = some x := rfl
def noPl : Pl := (⟨#[]⟩, 0, 0, 0, 0)
def zN_ (id : ByteArray) (xs : List It) : Nat := (xs.takeWhile fun y => decide (bl y.1 < bl id)).length
theorem zJu_ {x y : It} (h : zQ_ x y = true) : bl x.1 < bl y.1 ∨ x.1 = y.1 := by
 rw [zLi_] at h
 rcases h with h | ⟨h, _⟩
 ·exact .inl h
 ·exact .inr h
theorem zEp_ {id : ByteArray} : ∀ {xs : List It} {i : Nat} {y : It}, i < zN_ id xs → xs[i]? = some y → bl y.1 < bl id
 | [], i, y, h, _ => by simp [zN_] at h
 | z :: xs, i, y, h, hy => by
  unfold zN_ at h
  by_cases c : bl z.1 < bl id
  ·simp only [List.takeWhile_cons, c, decide_true, if_true, List.length_cons] at h
   cases i with
   | zero => simp at hy; subst hy; exact c
   | succ i => exact zEp_ (xs := xs) (i := i) (by unfold zN_; omega) (by simpa using hy)
  ·simp [c] at h
theorem zTj_ {id : ByteArray} : ∀ {xs : List It} {i : Nat} {y : It}, zWb_ xs → zN_ id xs ≤ i → xs[i]? = some y → ¬ bl y.1 < bl id
 | [], i, y, _, _, hy => by simp at hy
 | z :: xs, i, y, hr, h, hy => by
  unfold zN_ at h
  unfold zWb_ at hr
  rw [List.pairwise_cons] at hr
  by_cases c : bl z.1 < bl id
  ·simp only [List.takeWhile_cons, c, decide_true, if_true, List.length_cons] at h
   cases i with
   | zero => omega
   | succ i => exact zTj_ (xs := xs) (i := i) hr.2 (by unfold zN_; omega) (by simpa using hy)
  ·cases i with
   | zero => simp at hy; subst hy; exact c
   | succ i =>
    rcases zJu_ (hr.1 y (List.mem_of_getElem? (by simpa using hy))) with g | g
    ·exact fun d => c (List.lt_trans g d)
    ·rw [← g]; exact c
theorem zbu_ (id : ByteArray) (xs : List It) : zN_ id xs ≤ xs.length := (List.takeWhile_sublist _).length_le
theorem zwA_ (id : ByteArray) : ∀ {xs : List It}, zWb_ xs → (xs.drop (zN_ id xs)).takeWhile (fun y => decide (y.1 = id)) = xs.filter fun y => decide (y.1 = id)
 | [], _ => rfl
 | z :: xs, hr => by
  have hr' := hr
  unfold zWb_ at hr'
  rw [List.pairwise_cons] at hr'
  have ih := zwA_ id (xs := xs) hr'.2
  by_cases c : bl z.1 < bl id
  ·have hne : ¬ z.1 = id := fun e => by rw [e] at c; exact List.lt_irrefl _ c
   have e : zN_ id (z :: xs) = zN_ id xs + 1 := by simp [zN_, c]
   rw [e, List.drop_succ_cons, ih]
   simp [hne]
  ·have e : zN_ id (z :: xs) = 0 := by simp [zN_, c]
   rw [e, List.drop_zero]
   by_cases d : z.1 = id
   ·have e0 : zN_ id xs = 0 := by
     cases xs with
     | nil => rfl
     | cons y ys =>
      have := zTj_ (id := id) hr (i := 1) (y := y) (by omega) rfl
      simp [zN_, this]
    rw [e0, List.drop_zero] at ih
    simp [d, ih]
   ·have hall : ∀ y ∈ xs, ¬ y.1 = id := fun y hy e2 => by
     have hgt : bl id < bl z.1 := by
      rcases zPn_ id z.1 with g | g | g
      ·exact g
      ·exact absurd g.symm d
      ·exact absurd g c
     rcases zJu_ (hr'.1 y hy) with g | g
     ·rw [e2] at g; exact List.lt_irrefl _ (List.lt_trans hgt g)
     ·exact d (g.trans e2)
    have : (xs.filter fun y => decide (y.1 = id)) = [] := List.filter_eq_nil_iff.2 fun y hy => by simpa using hall y hy
    simp [d, this]
def zGe_ (xs : List It) (id : ByteArray) : List Pl := (xs.filter fun y => decide (y.1 = id)).map (·.2)
section
variable {k base tb : Nat} {h : AHeap} {sl : Nat → Slc} {F : Nat → List It} {s : Slc} {xs : List It}
theorem zqA_ (_hkx : xs.length + 10 ≤ k) (R : RowW 6 itC h s xs) (hl : xs.length ≤ 1000000000) (hr : zWb_ xs) (id : ByteArray) (j) (hj : j = fun (out5 : Slc) (h6 : AHeap) => some (out5, h6)) (bot) :
  ∀ (d i : Nat) (out : Slc) (H : AHeap), i + d = xs.length → zc_ h H → zN_ id xs ≤ i → AccW 5 plC 50 h.next H out (((xs.drop (zN_ id xs)).take (i - zN_ id xs)).map (·.2)) → (∀ t y, zN_ id xs ≤ t → t < i → xs[t]? = some y → y.1 = id) →
   Gx.Wp (zi_ bot (d + 1) (zZb_ k (DD k) j) id out s (i : Int) H) fun z => AccW 5 plC 50 h.next z.2 z.1 (zGe_ xs id) ∧ zc_ h z.2 := by
 have stop : ∀ (i : Nat), zN_ id xs ≤ i → i ≤ xs.length → (∀ t y, zN_ id xs ≤ t → t < i → xs[t]? = some y → y.1 = id) → (∀ y, xs[i]? = some y → ¬ y.1 = id) → ((xs.drop (zN_ id xs)).take (i - zN_ id xs)).map (·.2) = zGe_ xs id := by
  intro i h1 h2 h3 h4
  unfold zGe_
  rw [← zwA_ id hr]
  congr 1
  have e := (List.take_append_drop (i - zN_ id xs) (xs.drop (zN_ id xs))).symm
  rw [List.drop_drop, show zN_ id xs + (i - zN_ id xs) = i by omega] at e
  have ha : ∀ y ∈ (xs.drop (zN_ id xs)).take (i - zN_ id xs), decide (y.1 = id) = true := fun y hy => by
   obtain ⟨t, ht, e1⟩ := List.getElem_of_mem hy
   have h5 : ((xs.drop (zN_ id xs)).take (i - zN_ id xs))[t]? = some y := by rw [← e1]; exact List.getElem?_eq_getElem ht
   rw [List.getElem?_take] at h5
   split at h5
   ·rw [List.getElem?_drop] at h5
    exact decide_eq_true (h3 _ y (Nat.le_add_right _ _) (by omega) h5)
   ·cases h5
  have hd : (xs.drop i).takeWhile (fun y => decide (y.1 = id)) = [] := by
   cases hxd : xs.drop i with
   | nil => rfl
   | cons y ys =>
    have : xs[i]? = some y := by
     have := congrArg (·[0]?) hxd
     simpa [List.getElem?_drop] using this
    simp [h4 y this]
  have e3 := congrArg (List.takeWhile fun y => decide (y.1 = id)) e
  rw [List.takeWhile_append_of_pos ha, hd, List.append_nil] at e3
  exact e3.symm
 intro d
 induction d with
 | zero =>
  intro i out H hd kp hp A hall
  obtain rfl : i = xs.length := by omega
  rw [zg_]; simp only [zZb_]
  refine Gx.Wp.jn fun j20 h20 => .ifn (by rw [R.len]; simp) ?_
  rw [h20]
  refine .ifn (by decide) ?_
  rw [hj]
  rw [stop xs.length hp (Nat.le_refl _) hall (fun y hy => by simp at hy)] at A
  exact .of ⟨A, kp⟩
 | succ d ih =>
  intro i out H hd kp hp A hall
  rw [zg_]; simp only [zZb_]
  obtain ⟨x, hx⟩ := zv_ (l := xs) (i := i) (by omega)
  obtain ⟨q, b1, b2, b3, b4⟩ := (R.keeps kp).ld zG_ (by decide) hx
  refine Gx.Wp.jn fun j20 h20 => .ifp (by rw [R.len]; simp; omega) (.bnd b1 (.bnd (b4 0 x.1 rfl) ?_))
  rw [h20, zEj_]
  by_cases c : x.1 = id
  ·refine .ifp (by simp [c]) (.bnd b1 (.bnd (?_ : ldA 5 ⟨q.block, q.off + 1, none⟩ H = some (plC x.2)) (.bnd (zcp_ x.2) (Wp.newE fun H1 e1 k1 n1 g1 => ?_))))
   ·have h6 := b2
    simp only [ldA] at h6 ⊢
    obtain ⟨cc, e, r, fz, g1, g2, g3⟩ := zhq_ h6 (by decide)
    rw [zkf_ g1 (by omega)]
    congr 1
    have : (cc.drop (q.off + 1)).take 5 = ((cc.drop q.off).take 6).drop 1 := by rw [List.drop_take, List.drop_drop]
    rw [this, ← g3]; rfl
   ·have hlen : (((xs.drop (zN_ id xs)).take (i - zN_ id xs)).map (·.2)).length ≤ xs.length := by rw [List.length_map, List.length_take, List.length_drop]; omega
    obtain ⟨s', h', a1, A', c1, d1⟩ := A.push znp_ zHC_ x.2 (bytes := 48) (by decide) (by omega) kp.nx
    have eH : H1 = H.new (.cells (plC x.2) 50 true 0) := e1
    rw [eH]
    refine .bnd (zTg_ znp_ x.2 50) (.bnd a1 ?_)
    rw [Gx.w1 (by omega)]
    refine ih (i + 1) s' h' (by omega) (Chg.beh kp c1 fun y hy ⟨a, ha, e⟩ => by have := (A.lt a ha).2; omega) (by omega) ?_ (fun t y h1 h2 h3 => ?_)
    ·have e2 : (xs.drop (zN_ id xs)).take (i + 1 - zN_ id xs) = (xs.drop (zN_ id xs)).take (i - zN_ id xs) ++ [x] := by
      rw [show i + 1 - zN_ id xs = (i - zN_ id xs) + 1 by omega, List.take_add_one, List.getElem?_drop, show zN_ id xs + (i - zN_ id xs) = i by omega, hx]; rfl
     rw [e2, List.map_append]
     exact A'
    ·by_cases e : t = i
     ·subst e; rw [hx] at h3; cases h3; exact c
     ·exact hall t y h1 (by omega) h3
  ·refine .ifn (by simp [c]) ?_
   rw [hj]
   rw [stop i hp (by omega) hall (fun y hy => by rw [hx] at hy; cases hy; exact c)] at A
   exact .of ⟨A, kp⟩
theorem zsw_ (T : Tab base h tb sl F) (hr : zgc_ F) {N : Nat} (hm : MaxT F N) (hN : N ≤ 1000000000) (hkN : N + 20 ≤ k) (id : ByteArray) :
  Gx.Wp (zLd_ k (DD k) (some ⟨tb, 0, none⟩) id h) fun z => AccW 5 plC 50 h.next z.2 z.1 (zGe_ (F (idx id)) id) ∧ zc_ h z.2 := by
 simp only [zLd_]
 have hi := zIi_ id
 have hl := hm _ hi
 have S := T.slot _ hi
 refine .bnd (zps_ k _ tb id h) (.bnd rfl (.bnd (zB_ T.blk (zCd_ _ hi)) (.call (zjt_ (by omega) S.row (by omega) id (zbu_ id _) (fun i y h1 h2 => zNl_.2 (zEp_ h1 h2)) (fun i y h1 h2 => fun q => zTj_ (hr _ hi) h1 h2 (zNl_.1 q))) fun r ⟨q1, q2⟩ => Gx.Wp.jn fun j7 h7 => ?_)))
 rw [q1]
 unfold zpg_
 obtain ⟨bot, eb⟩ := zq_ (fun _ _ _ _ _ => none) (zZb_ k (DD k) j7) (show ((F (idx id)).length - zN_ id (F (idx id))) + 1 ≤ k by omega)
 rw [eb]
 have := zqA_ (k := k) (by omega) (S.row.keeps q2) (by omega) (hr _ hi) id j7 h7 bot ((F (idx id)).length - zN_ id (F (idx id))) (zN_ id (F (idx id))) ⟨none, 0, 0⟩ r.2 (by have := zbu_ id (F (idx id)); omega) (.refl _ _) (Nat.le_refl _) (by rw [Nat.sub_self]; exact ⟨.inl ⟨rfl, rfl⟩, fun a ha => by cases ha⟩) (fun t y a b => by omega)
 refine this.mono fun z ⟨z1, z2⟩ => ⟨⟨z1.st, fun a ha => ⟨(z1.lt a ha).1, Nat.le_trans q2.nx (z1.lt a ha).2⟩⟩, q2.trans z2⟩
def getL (xs : List It) (id : ByteArray) : Pl × Bool := match zGe_ xs id with
 | [] => (noPl, false)
 | p :: _ => (p, true)
theorem zbB_ (T : Tab base h tb sl F) (hr : zgc_ F) {N : Nat} (hm : MaxT F N) (hN : N ≤ 1000000000) (hkN : N + 20 ≤ k) (id : ByteArray) :
  Gx.Wp (zWe_ k (DD k) (some ⟨tb, 0, none⟩) id h) fun z => z.1 = getL (F (idx id)) id ∧ zc_ h z.2 := by
 simp only [zWe_]
 refine Wp.newE fun H1 e1 k1 n1 g1 => .call (zsw_ (T.keeps k1) hr hm hN hkN id) fun r ⟨A, k2⟩ => ?_
 have g2 := k2.got (by omega) g1
 have n2 := k2.nx
 have hrow : RowW 5 plC r.2 r.1 (zGe_ (F (idx id)) id) := by
  rcases A.st with ⟨e1, e2⟩ | ⟨b, e1, e2, e3⟩
  ·rw [e1, e2]; exact RowW.nil _ _ _ _ _
  ·have := zgq_ (w := 5) (enc := plC) znp_ (n := (zGe_ (F (idx id)) id).length) (cap := (zGe_ (F (idx id)) id).length) (sp := some 6) e2 (A.lt ⟨b, 0, some 6⟩ (by rw [e1])).1 (Nat.le_refl _)
   rw [List.take_length] at this
   rw [e1]; exact this
 cases hp : zGe_ (F (idx id)) id with
 | nil =>
  rw [hp] at hrow
  refine .ifp (by rw [hrow.len]; rfl) (Wp.stL g2 rfl rfl rfl (by decide) fun H3 c3 n3 g3 => .bnd (zA_ g3 rfl) (.bnd (zcp_ noPl) (.of ⟨by unfold getL; rw [hp], ?_⟩)))
  exact (k1.trans k2).keepsS c3 fun y hy => by subst hy; omega
 | cons p l =>
  rw [hp] at hrow
  obtain ⟨q, b1, b2, _⟩ := hrow.ld znp_ (by decide) (i := 0) (x := p) rfl
  refine .ifn (by rw [hrow.len]; simp; omega) (.bnd b1 (.bnd b2 (.bnd (zcp_ p) (Wp.stL g2 rfl rfl rfl (by decide) fun H3 c3 n3 g3 => .bnd (zA_ g3 rfl) (.bnd (zcp_ p) (.of ⟨by unfold getL; rw [hp], ?_⟩))))))
  exact (k1.trans k2).keepsS c3 fun y hy => by subst hy; omega
end
section
variable {k base tb : Nat} {h : AHeap} {s : Slc} {xs : List It} {pb : Nat} {p : ByteArray}
end
def zw_ (F : Nat → List It) (n : Nat) : Nat := ((List.range n).map fun i => (F i).length).sum
theorem zwd_ (F : Nat → List It) (n : Nat) : zw_ F (n + 1) = zw_ F n + (F n).length := by simp [zw_, List.range_succ]
theorem zsv_ {xs : List It} (hr : zWb_ xs) (q : It → Bool) : zWb_ (xs.filter q) := List.Pairwise.sublist List.filter_sublist hr
section
variable {k base tb : Nat} {h : AHeap} {sl : Nat → Slc} {F : Nat → List It}
theorem zku_ (sl : Nat → Slc) : decA 256 (.agg ⟨tabC sl⟩) = some (tabC sl) := by
 show (bif Nat.beq (tabC sl).length 256 then some (tabC sl) else none) = _
 rw [zWg_]; rfl
theorem zZC_ (T : Tab base h tb sl F) : ldA 256 ⟨tb, 0 + 0, none⟩ h = some (tabC sl) := zA_ T.blk (zWg_ sl)
end
section
variable {k : Nat}
end
variable {H : Type} {enc : TypeId × Value → H}
end Gg
namespace Gg
open Go Gx
def leb (n : Nat) : List UInt8 := if n < 128 then [UInt8.ofNat n] else UInt8.ofNat (n % 128 + 128) :: leb (n / 128)
termination_by n
decreasing_by omega
theorem zIh_ {n : Nat} (h : n < 128) : leb n = [UInt8.ofNat n] := by rw [leb]; rw [if_pos h]
theorem zwn_ {n : Nat} (h : ¬ n < 128) : leb n = UInt8.ofNat (n % 128 + 128) :: leb (n / 128) := by rw [leb]; rw [if_neg h]
theorem zdp_ (n : Nat) : 0 < (leb n).length := by
 by_cases h : n < 128
 ·rw [zIh_ h]; simp
 ·rw [zwn_ h]; simp
theorem zJb_ : ∀ (d n : Nat), n < 128 ^ (d + 1) → (leb n).length ≤ d + 1
 | 0, n, h => by rw [zIh_ (by omega)]; simp
 | d + 1, n, h => by
  by_cases c : n < 128
  ·rw [zIh_ c]; simp
  ·rw [zwn_ c, List.length_cons]
   have : n / 128 < 128 ^ (d + 1) := (Nat.div_lt_iff_lt_mul (by decide)).2 (by rw [Nat.pow_succ] at h; exact h)
   have := zJb_ d (n / 128) this
   omega
def bA (l : List UInt8) : ByteArray := ⟨⟨l⟩⟩
theorem zWc_ (l : List UInt8) : (bA l).size = l.length := rfl
theorem zsl_ (l m : List UInt8) : bA l ++ bA m = bA (l ++ m) := by
 apply zSf_
 simp [bl, bA, ByteArray.data_append]
theorem zeE_ : ∀ a : Fin 256, Go.bits .or .u8 (a.val : Int) 128 = ((a.val % 128 + 128 : Nat) : Int) := by decide +kernel
section
variable {k : Nat}
theorem zjs_ (m : Nat) (h : m < 256) : Value.int .u8 (m : Int) = encB (UInt8.ofNat m) := by
 unfold encB
 congr 1
 have : (UInt8.ofNat m).toNat = m := by simp [UInt8.toNat_ofNat']; omega
 omega
theorem zSs_ {h : AHeap} {s : Slc} {l : List UInt8} (R : Row encB h s l) : zeb_ h s = some (bA l) := by
 have := R.rdS
 unfold Gx.rdS at this
 unfold zeb_
 cases e : s.a with
 | none =>
  rw [e] at this
  have e2 : l.map encB = [] := by
   cases hl : l.map encB with
   | nil => rfl
   | cons x y => rw [hl] at this; cases this
  have : l = [] := by simpa using e2
  rw [this]; rfl
 | some a =>
  rw [e] at this
  simp only [Nat.mul_one] at this
  show (h.rdL a.block a.off s.len).bind _ = _
  rw [this]
  show (zEe_ (l.map encB)).bind _ = _
  rw [zHp_]; rfl
theorem zjm_ (D : za_) (hk : 20 ≤ k) (n : Nat) (hn : n < 9223372036854775808) (h : AHeap) : Gx.Wp (zih_ k D (n : Int) h) fun z => z.1 = (bA (leb n), 0) ∧ zc_ h z.2 := by
 simp only [zih_]
 refine .ifn (by simp) (Gx.Wp.jn fun j4 h4 => ?_)
 unfold zwo_
 obtain ⟨bot, eb⟩ := zq_ (fun _ _ _ => none) (zif_ k D j4) (show 9 + 1 ≤ k by omega)
 rw [eb]
 have loop : ∀ (d m : Nat) (l : List UInt8) (o : Slc) (H : AHeap), m < 128 ^ (d + 1) → m < 9223372036854775808 → l.length + d ≤ 20 → l ++ leb m = leb n → zc_ h H → Acc encB 5 h.next H o l → Gx.Wp (zi_ bot (d + 1) (zif_ k D j4) (m : Int) o H) fun z => z.1 = (bA (leb n), 0) ∧ zc_ h z.2 := fun d => by
  induction d with
  | zero =>
   intro m l o H hm hm2 hl hlm kp A
   rw [zg_]; simp only [zif_]
   have hm' : m < 128 := by simpa using hm
   refine .ifn (by simp; omega) ?_
   rw [h4]
   refine Wp.newE fun H1 e1 k1 n1 g1 => ?_
   rw [Gx.w8 _ (by omega), zjs_ m (by omega)] at e1
   obtain ⟨s', h9, a1, a2, A', c9, d9⟩ := Acc.pushK A (fun _ => rfl) (UInt8.ofNat m) (bytes := 1) e1 (by omega) (by decide) kp.nx
   refine .bnd a1 (.bnd a2 (.bnd (zSs_ A'.row) (.of ⟨?_, kp.keepsS c9 fun y ⟨a, ha, e⟩ => by rw [e]; exact (A.lt a ha).2⟩)))
   rw [← hlm, zIh_ hm']
  | succ d ih =>
   intro m l o H hm hm2 hl hlm kp A
   rw [zg_]; simp only [zif_]
   by_cases c : m < 128
   ·refine .ifn (by simp; omega) ?_
    rw [h4]
    refine Wp.newE fun H1 e1 k1 n1 g1 => ?_
    rw [Gx.w8 _ (by omega), zjs_ m (by omega)] at e1
    obtain ⟨s', h9, a1, a2, A', c9, d9⟩ := Acc.pushK A (fun _ => rfl) (UInt8.ofNat m) (bytes := 1) e1 (by omega) (by decide) kp.nx
    refine .bnd a1 (.bnd a2 (.bnd (zSs_ A'.row) (.of ⟨?_, kp.keepsS c9 fun y ⟨a, ha, e⟩ => by rw [e]; exact (A.lt a ha).2⟩)))
    rw [← hlm, zIh_ c]
   ·refine .ifp (by simp; omega) (Wp.newE fun H1 e1 k1 n1 g1 => ?_)
    have ew : IntKind.wrap .u8 (m : Int) = ((m % 256 : Nat) : Int) := by rw [Go.IntKind.wrap_u8]; omega
    have eo : Go.bits .or .u8 (IntKind.wrap .u8 (m : Int)) 128 = ((m % 128 + 128 : Nat) : Int) := by
     rw [ew, zeE_ ⟨m % 256, by omega⟩]
     congr 2
     show m % 256 % 128 = m % 128
     omega
    rw [eo, zjs_ _ (by omega)] at e1
    obtain ⟨s', h9, a1, a2, A', c9, d9⟩ := Acc.pushK A (fun _ => rfl) (UInt8.ofNat (m % 128 + 128)) (bytes := 1) e1 (by omega) (by decide) kp.nx
    refine .bnd a1 (.bnd a2 ?_)
    have ef : Int.fdiv (m : Int) 128 = ((m / 128 : Nat) : Int) := by rw [Int.fdiv_eq_ediv_of_nonneg _ (by decide)]; omega
    rw [ef]
    refine ih (m / 128) (l ++ [UInt8.ofNat (m % 128 + 128)]) s' h9 ((Nat.div_lt_iff_lt_mul (by decide)).2 (by rw [Nat.pow_succ] at hm; exact hm)) (by omega) (by rw [List.length_append, List.length_singleton]; omega) ?_ (kp.keepsS c9 fun y ⟨a, ha, e⟩ => by rw [e]; exact (A.lt a ha).2) A'
    rw [← hlm, zwn_ c]; simp
 exact loop 9 n [] ⟨none, 0, 0⟩ h (Nat.lt_of_lt_of_le hn (by decide)) hn (by simp) (by simp) (.refl _ _) (Acc.nil _ _ _ _)
theorem zqg_ (D : za_) (hk : 20 ≤ k) (n : Nat) (hn : n < 9223372036854775808) (h : AHeap) : Gx.Wp (zvd_ k D (n : Int) h) fun z => z.1 = bA (leb n) ∧ zc_ h z.2 := by
 simp only [zvd_]
 exact .call (zjm_ D hk n hn h) fun r ⟨q, kk⟩ => .of ⟨by rw [q], kk⟩
end
structure BuS (base : Nat) (H : AHeap) (bb : Nat) (s : Slc) (l : List UInt8) : Prop where
 blk : ∃ pv, H.get bb = some (.cells [pv, .slice s.a s.len s.cap] 48 true 0) ∧ (pv = .pointer none ∨ pv = .pointer (some ⟨bb, 0, none⟩))
 acc : Acc encB 5 base H s l
 lt : bb < H.next
 ge : base ≤ bb
 ne : ∀ a, s.a = some a → a.block ≠ bb
def BOwn (bb : Nat) (s : Slc) (y : Nat) : Prop := y = bb ∨ ofS s y
section
variable {k base bb : Nat} {h H H' : AHeap} {s : Slc} {l : List UInt8}
theorem BuS.own (B : BuS base H bb s l) {y : Nat} (hy : BOwn bb s y) : base ≤ y ∧ y < H.next := by
 rcases hy with rfl | ⟨a, ha, rfl⟩
 ·exact ⟨B.ge, B.lt⟩
 ·exact ⟨(B.acc.lt a ha).2, (B.acc.lt a ha).1⟩
theorem BuS.chg {S : Nat → Prop} (B : BuS base H bb s l) (c : Chg S H H') (hs : ∀ y, BOwn bb s y → ¬ S y) : BuS base H' bb s l :=
 ⟨by
  obtain ⟨pv, g, e⟩ := B.blk
  exact ⟨pv, (c.oth bb B.lt (hs bb (.inl rfl))).trans g, e⟩, B.acc.chg c fun a ha => hs _ (.inr ⟨a, ha, rfl⟩), Nat.lt_of_lt_of_le B.lt c.nx, B.ge, B.ne⟩
theorem BuS.keeps (B : BuS base H bb s l) (c : zc_ H H') : BuS base H' bb s l := B.chg c fun _ _ f => f
theorem BuS.new (H : AHeap) (g : H'.get H.next = some (.cells [.pointer none, .slice none 0 0] 48 true 0)) (n : H'.next = H.next + 1) : BuS H.next H' H.next ⟨none, 0, 0⟩ [] :=
 ⟨⟨_, g, .inl rfl⟩, Acc.nil _ _ _ _, by omega, Nat.le_refl _, fun a ha => by cases ha⟩
theorem zbe_ (D : za_) (B : BuS base H bb s l) (x : ByteArray) (hx : 2 * (l.length + x.size) ≤ 281474976710656) :
  Gx.Wp (zt_ k D (some ⟨bb, 0, none⟩) x H) fun z => ∃ s', BuS base z.2 bb s' (l ++ bl x) ∧ Chg (BOwn bb s) H z.2 ∧ ∀ y, BOwn bb s' y → H.next ≤ y ∨ BOwn bb s y := by
 simp only [zt_]
 obtain ⟨pv, g, hpv⟩ := B.blk
 have hlt := B.lt
 have hge := B.ge
 obtain ⟨H1, e1, g1, c1⟩ : ∃ H1, ccA zej_ ⟨bb, 0, none⟩ H = some H1 ∧ H1.get bb = some (.cells [.pointer (some ⟨bb, 0, none⟩), .slice s.a s.len s.cap] 48 true 0) ∧ Chg (· = bb) H H1 := by
  have ht : zfk_ 48 0 2 zej_ = true := by decide
  rcases hpv with rfl | rfl
  ·refine ⟨_, ?_, zmb_ _ _ _, Chg.set (.inr rfl)⟩
   ·unfold ccA
    simp only [g]
    rw [if_pos ⟨by simpa using ht, trivial⟩]
    show st1 ⟨bb, 0, none⟩ _ H = _
    rw [zpc_ g (by simp) rfl]; rfl
  ·refine ⟨H, ?_, g, .refl _ _⟩
   ·unfold ccA
    simp only [g]
    rw [if_pos ⟨by simpa using ht, trivial⟩]
    simp
 have nx1 := c1.nx
 have A1 : Acc encB 5 base H1 s l := B.acc.chg c1 fun a ha e => B.ne a ha e
 obtain ⟨s', h5, a5, A5, c5, d5⟩ : ∃ s' h5, zl_ 1 1 5 H1 s (zM_ x) x.size = some (s', h5) ∧ Acc encB 5 base h5 s' (l ++ bl x) ∧ Chg (ofS s) H1 h5 ∧ ∀ a, s'.a = some a → H1.next ≤ a.block ∨ ofS s a.block := by
  by_cases c : bl x = []
  ·have hx0 : x = ⟨#[]⟩ := zSf_ (by rw [c]; rfl)
   subst hx0
   refine ⟨s, H1, ?_, by rw [c, List.append_nil]; exact A1, .refl _ _, fun a ha => .inr ⟨a, ha, rfl⟩⟩
   rcases A1.st with ⟨rfl, _⟩ | ⟨b, gg⟩
   ·rfl
   ·rw [gg.s]
    show zl_ 1 1 5 H1 _ [] 0 = _
    simp [zl_]
  ·obtain ⟨s', h5, p1, p2, p3, p4⟩ := A1.app (fun _ => rfl) (bl x) (bytes := 1) (by have : (bl x).length = x.size := rfl; omega) (by decide) (by omega)
   exact ⟨s', h5, p1, p2, p3, fun a ha => (p4 a ha).imp id fun q => ⟨a, q, rfl⟩⟩
 have n5 := c5.nx
 have g5 : h5.get bb = some (.cells [.pointer (some ⟨bb, 0, none⟩), .slice s.a s.len s.cap] 48 true 0) := c5.got (by omega) (fun ⟨a, ha, e⟩ => B.ne a ha e.symm) g1
 refine .bnd rfl (.bnd e1 (.bnd rfl (.bnd (zB_ (o := 0 + 1) g1 rfl) (.bnd a5 (.bnd rfl (.bnd (zpc_ g5 (by simp) rfl) (.of ?_)))))))
 have d5' : ∀ a, s'.a = some a → a.block ≠ bb := fun a ha e => by
  rcases d5 a ha with q | ⟨b, hb, q⟩
  ·omega
  ·exact B.ne b hb (q ▸ e)
 refine ⟨s', ⟨⟨_, zmb_ _ _ _, .inr rfl⟩, A5.chg (S := (· = bb)) (Chg.set (.inr rfl)) fun a ha e => d5' a ha e, by simp; omega, hge, d5'⟩, ?_, ?_⟩
 ·refine Chg.beh (T := (· = bb)) (Chg.beh (T := ofS s) (c1.wk fun y _ e => .inl e) c5 fun y _ e => .inr e) (Chg.set (.inr rfl)) fun y _ e => .inl e
 ·rintro y (rfl | ⟨a, ha, rfl⟩)
  ·exact .inr (.inl rfl)
  ·rcases d5 a ha with q | q
   ·left; omega
   ·exact .inr (.inr q)
theorem zHn_ (l : List UInt8) : zYg_ (l.map encB) = some l := by
 induction l with
 | nil => rfl
 | cons x l ih =>
  have hx := x.toNat_lt
  simp only [List.map_cons, encB, zYg_]
  rw [if_pos (by omega), ih]
  simp
theorem zBo_ (D : za_) (B : BuS base H bb s l) (hl : l.length < 9223372036854775808) : Gx.Wp (zK_ k D (some ⟨bb, 0, none⟩) H) fun z => z.1 = bA l ∧ Chg (BOwn bb s) H z.2 ∧ ∃ pv, z.2.get bb = some (.cells [pv, .slice s.a s.len s.cap] 48 true 0) := by
 obtain ⟨pv, g, hpv⟩ := B.blk
 simp only [zK_]
 have hsl : s.len = l.length := B.acc.row.1
 have gl := zB_ (sp := none) (o := 0 + 1) g rfl
 rcases B.acc.st with ⟨rfl, rfl⟩ | ⟨b, gg⟩
 ·refine .bnd rfl (.bnd gl (.bnd rfl (.bnd rfl (.bnd gl (.bnd (show unsA 5 none ((0 : Nat) : Int) H = some (⟨#[]⟩, H) from rfl) (.of ⟨rfl, .refl _ _, pv, g⟩))))))
 ·have gb : H.get b = some (.cells (l.map encB) 5 true 0) := gg.blk
  have hp : 0 < l.length := List.length_pos_iff.2 gg.ne
  have hne : b ≠ bb := B.ne ⟨b, 0, some 2⟩ (by rw [gg.s])
  have e1 : zYj_ s = some (some ⟨b, 0, none⟩) := by
   rw [gg.s]
   unfold zYj_
   have : Nat.beq l.length 0 = false := by
    cases c : Nat.beq l.length 0 with
    | false => rfl
    | true => have := Nat.eq_of_beq_eq_true c; omega
   simp only [this, cond_false]
  have e2 : unsA 5 (some ⟨b, 0, none⟩) (s.len : Int) H = some (bA l, H.set b (.cells (l.map encB) 5 true (max 0 l.length))) := by
   unfold unsA
   rw [hsl, if_neg (by omega)]
   simp only [gb]
   rw [if_pos ⟨trivial, by omega, by omega, trivial, by simp, by omega⟩, Int.toNat_natCast, List.take_of_length_le (by simp), zHn_]
   rfl
  refine .bnd rfl (.bnd gl (.bnd e1 (.bnd rfl (.bnd gl (.bnd e2 (.of ⟨rfl, Chg.set (.inr (.inr ⟨⟨b, 0, some 2⟩, by rw [gg.s], rfl⟩)), pv, ?_⟩))))))
  simp only [AHeap.get_set]
  rw [if_neg (Ne.symm hne)]; exact g
end
theorem zbx_ {α : Type} {R : α → α → Prop} (tr : ∀ a b c, R a b → R b c → R a c) {l : List α} {i : Nat} {x y : α} (h : (l.take (i + 1)).Pairwise R) (hy : l[i]? = some y) (hx : l[i + 1]? = some x) (r : R y x) : (l.take (i + 2)).Pairwise R := by
 have e : l.take (i + 2) = l.take (i + 1) ++ [x] := by rw [List.take_add_one (i := i + 1), hx]; rfl
 rw [e, List.pairwise_append]
 refine ⟨h, List.pairwise_singleton _ _, fun a ha b hb => ?_⟩
 rw [List.mem_singleton] at hb
 subst hb
 have e2 : l.take (i + 1) = l.take i ++ [y] := by rw [List.take_add_one, hy]; rfl
 rw [e2] at h ha
 rcases List.mem_append.1 ha with ha | ha
 ·exact tr _ _ _ ((List.pairwise_append.1 h).2.2 a ha y (List.mem_singleton.2 rfl)) r
 ·rw [List.mem_singleton] at ha; subst ha; exact r
theorem zoz_ {α : Type} {R : α → α → Prop} {l : List α} {i : Nat} {x y : α} (hy : l[i]? = some y) (hx : l[i + 1]? = some x) (r : ¬ R y x) : ¬ l.Pairwise R := fun h => by
 obtain ⟨h1, rfl⟩ := zam_ hy
 obtain ⟨h2, rfl⟩ := zam_ hx
 exact r (List.pairwise_iff_getElem.1 h i (i + 1) h1 h2 (by omega))
instance (a b : ByteArray) : Decidable (ltB a b) := by unfold ltB; exact inferInstance
def zhk_ (x y : It) : Prop := zQ_ x y = true
theorem zTv_ (a b c : It) (h1 : zhk_ a b) (h2 : zhk_ b c) : zhk_ a c := zvi_ h1 h2
def zCi_ (sup : List ByteArray) (its : List It) : Prop := (∀ s ∈ sup, s.size = 32) ∧ ∀ x ∈ its, okI x
def upOk (sup : List ByteArray) (its : List It) : Prop := sup.Pairwise ltB ∧ its.Pairwise zhk_
open Classical in
noncomputable def chkF (sup : List ByteArray) (its : List It) : Int := if zCi_ sup its then (if upOk sup its then 0 else 4) else 1
section
variable {k : Nat} {h : AHeap} {fs fi : Slc} {sup : List ByteArray} {its : List It}
theorem zgB_ {R : Type} {Q : R → Prop} {x y : ByteArray} {h : AHeap} {κ : Value → AHeap → Option R} {C : za_} (hC : C = DD k) (kt : Gx.Wp (κ (.bool (decide (ltB x y))) h) Q) :
  Gx.Wp (zVc_ C (.func (.func 61) ⟨[]⟩ ⟨[]⟩) [.string x, .string y] h κ) Q := by
 subst hC
 show Gx.Wp ((zwf_ k noC x y h).bind fun r => κ (.bool r.1) r.2) Q
 have e : zwf_ k noC x y h = some (decide (ltB x y), h) := by
  simp only [zwf_, zjc_, Option.bind_some, zEj_, zUw_]
  simp [ltB]
 exact .bnd e kt
theorem zJB_ {R : Type} {Q : R → Prop} (hk : 100 ≤ k) {x y : It} {h : AHeap} {κ : Value → AHeap → Option R} {C : za_} (hC : C = DD k) (kt : ∀ h', zc_ h h' → Gx.Wp (κ (.bool (zQ_ x y)) h') Q) :
  Gx.Wp (zVc_ C (.func (.func 63) ⟨[]⟩ ⟨[]⟩) [.agg ⟨itC x⟩, .agg ⟨itC y⟩] h κ) Q := by
 subst hC
 show Gx.Wp ((zri_ k noC x y h).bind fun r => κ (.bool r.1) r.2) Q
 refine .call (zzA_ noC hk x y h) fun r ⟨q1, q2⟩ => ?_
 rw [q1]; exact kt _ q2
theorem zNw_ (R : Row encS h fs sup) (hl : sup.length + 10 ≤ k) (hb : sup.length < 9000000000000000000) : Gx.Wp (zXd_ k (DD k) fs (.func (.func 61) ⟨[]⟩ ⟨[]⟩) h) fun z => (z.1 = true ↔ sup.Pairwise ltB) ∧ zc_ h z.2 := by
 simp only [zXd_]
 refine Gx.Wp.jn fun j2 h2 => ?_
 unfold zbh_
 obtain ⟨bot, eb⟩ := zq_ (fun _ _ _ _ => none) (zic_ k (DD k) j2) (show (sup.length - 1) + 1 ≤ k by omega)
 rw [eb]
 have loop : ∀ (d i : Nat), (i + 1) + d = max sup.length 1 → (sup.take (i + 1)).Pairwise ltB → Gx.Wp (zi_ bot (d + 1) (zic_ k (DD k) j2) fs (.func (.func 61) ⟨[]⟩ ⟨[]⟩) ((i + 1 : Nat) : Int) h) fun z => (z.1 = true ↔ sup.Pairwise ltB) ∧ zc_ h z.2 := fun d => by
  induction d with
  | zero =>
   intro i hd hp
   rw [zg_]; simp only [zic_]
   refine .ifn (by rw [show fs.len = sup.length from R.1]; simp; omega) ?_
   rw [h2]
   rw [List.take_of_length_le (by omega)] at hp
   exact .of ⟨⟨fun _ => hp, fun _ => rfl⟩, .refl _ _⟩
  | succ d ih =>
   intro i hd hp
   rw [zg_]; simp only [zic_]
   obtain ⟨y, hy⟩ := zv_ (l := sup) (i := i) (by omega)
   obtain ⟨x, hx⟩ := zv_ (l := sup) (i := i + 1) (by omega)
   obtain ⟨q, b1, b2⟩ := Row.ldS R hy
   obtain ⟨q', c1, c2⟩ := Row.ldS R hx
   have e1 : IntKind.wrap .i64 (((i + 1 : Nat) : Int) - 1) = (i : Int) := by rw [Gx.w64 _ (by omega)]; omega
   rw [e1]
   refine .ifp (by rw [show fs.len = sup.length from R.1]; simp; omega) (.bnd b1 (.bnd b2 (.bnd c1 (.bnd c2 (zgB_ rfl (.bnd rfl ?_))))))
   by_cases c : ltB y x
   ·refine .ifn (by simp [c]) ?_
    rw [Gx.w1 (by omega)]
    exact ih (i + 1) (by omega) (zbx_ zSo_ hp hy hx c)
   ·exact .ifp (by simp [c]) (.of ⟨⟨fun e => (Bool.false_ne_true e).elim, fun e => absurd e (zoz_ hy hx c)⟩, .refl _ _⟩)
 by_cases c0 : sup = []
 ·subst c0
  exact loop 0 0 rfl List.Pairwise.nil
 ·have : 0 < sup.length := List.length_pos_iff.2 c0
  obtain ⟨y, hy⟩ := zv_ (l := sup) (i := 0) this
  exact loop (sup.length - 1) 0 (by omega) (by rw [List.take_add_one, hy]; simp)
theorem zFw_ (hk : 100 ≤ k) (R : RowW 6 itC h fi its) (hl : its.length + 10 ≤ k) (hb : its.length < 9000000000000000000) : Gx.Wp (zpd_ k (DD k) fi (.func (.func 63) ⟨[]⟩ ⟨[]⟩) h) fun z => (z.1 = true ↔ its.Pairwise zhk_) ∧ zc_ h z.2 := by
 simp only [zpd_]
 refine Gx.Wp.jn fun j2 h2 => ?_
 unfold zdg_
 obtain ⟨bot, eb⟩ := zq_ (fun _ _ _ _ => none) (zTb_ k (DD k) j2) (show (its.length - 1) + 1 ≤ k by omega)
 rw [eb]
 have loop : ∀ (d i : Nat) (H : AHeap), (i + 1) + d = max its.length 1 → zc_ h H → (its.take (i + 1)).Pairwise zhk_ → Gx.Wp (zi_ bot (d + 1) (zTb_ k (DD k) j2) fi (.func (.func 63) ⟨[]⟩ ⟨[]⟩) ((i + 1 : Nat) : Int) H) fun z => (z.1 = true ↔ its.Pairwise zhk_) ∧ zc_ h z.2 := fun d => by
  induction d with
  | zero =>
   intro i H hd kp hp
   rw [zg_]; simp only [zTb_]
   refine .ifn (by rw [R.len]; simp; omega) ?_
   rw [h2]
   rw [List.take_of_length_le (by omega)] at hp
   exact .of ⟨⟨fun _ => hp, fun _ => rfl⟩, kp⟩
  | succ d ih =>
   intro i H hd kp hp
   rw [zg_]; simp only [zTb_]
   obtain ⟨y, hy⟩ := zv_ (l := its) (i := i) (by omega)
   obtain ⟨x, hx⟩ := zv_ (l := its) (i := i + 1) (by omega)
   obtain ⟨q, b1, b2, _⟩ := (R.keeps kp).ld zG_ (by decide) hy
   obtain ⟨q', c1, c2, _⟩ := (R.keeps kp).ld zG_ (by decide) hx
   have e1 : IntKind.wrap .i64 (((i + 1 : Nat) : Int) - 1) = (i : Int) := by rw [Gx.w64 _ (by omega)]; omega
   rw [e1]
   refine .ifp (by rw [R.len]; simp; omega) (.bnd b1 (.bnd b2 (.bnd (zvb_ y) (.bnd c1 (.bnd c2 (.bnd (zvb_ x) (zJB_ (x := y) (y := x) hk rfl fun h' k' => .bnd rfl ?_)))))))
   by_cases c : zQ_ y x = true
   ·refine .ifn (by simp [c]) ?_
    rw [Gx.w1 (by omega)]
    exact ih (i + 1) h' (by omega) (kp.trans k') (zbx_ zTv_ hp hy hx c)
   ·exact .ifp (by simp [c]) (.of ⟨⟨fun e => (Bool.false_ne_true e).elim, fun e => absurd e (zoz_ hy hx c)⟩, kp.trans k'⟩)
 by_cases c0 : its = []
 ·subst c0
  exact loop 0 0 h rfl (.refl _ _) List.Pairwise.nil
 ·have : 0 < its.length := List.length_pos_iff.2 c0
  obtain ⟨y, hy⟩ := zv_ (l := its) (i := 0) this
  exact loop (its.length - 1) 0 h (by omega) (.refl _ _) (by rw [List.take_add_one, hy]; simp)
theorem zFA_ (D : za_) (s : ByteArray) (h : AHeap) : zci_ k D s h = some (decide (s.size = 32), h) := by
 simp only [zci_]
 by_cases c : s.size = 32
 ·simp [c]
 ·simp [c]; omega
theorem zrr_ (hk : 100 ≤ k) (R : Row encS h fs sup) (S : RowW 6 itC h fi its) (hl : sup.length + its.length + 20 ≤ k) (hb : sup.length + its.length < 9000000000000000000) :
  Gx.Wp (zvg_ k (DD k) (fs, fi) h) fun z => z.1 = chkF sup its ∧ zc_ h z.2 := by
 simp only [zvg_]
 refine Wp.newE fun H1 e1 k1 n1 g1 => Gx.Wp.jn fun j4 h4 => ?_
 have l0 : ∀ {H : AHeap}, zc_ H1 H → ldL ⟨h.next, 0, none⟩ H = some fs := fun kk => zB_ (kk.got (by omega) g1) rfl
 have l1 : ∀ {H : AHeap}, zc_ H1 H → ldL ⟨h.next, 1, none⟩ H = some fi := fun kk => zB_ (kk.got (by omega) g1) rfl
 refine .bnd (l0 (.refl _ _)) ?_
 unfold zql_
 obtain ⟨bot, eb⟩ := zq_ (fun _ _ _ _ _ => none) (zce_ k (DD k) j4) (show sup.length + 1 ≤ k by omega)
 rw [eb]
 have loop : ∀ (d i : Nat), i + d = sup.length → (∀ s ∈ sup.take i, s.size = 32) → Gx.Wp (zi_ bot (d + 1) (zce_ k (DD k) j4) (some ⟨h.next, 0, none⟩) fs (fs.len : Int) (i : Int) H1) fun z => z.1 = chkF sup its ∧ zc_ h z.2 := fun d => by
  induction d with
  | succ d ih =>
   intro i hd hs
   rw [zg_]; simp only [zce_]
   obtain ⟨x, hx⟩ := zv_ (l := sup) (i := i) (by omega)
   obtain ⟨q, b1, b2⟩ := Row.ldS (R.keeps k1) hx
   refine .ifp (by rw [show fs.len = sup.length from R.1]; simp; omega) (.bnd b1 (.bnd b2 (.bnd (zFA_ _ _ _) ?_)))
   by_cases c : x.size = 32
   ·refine .ifn (by simp [c]) ?_
    rw [Gx.w1 (by omega)]
    refine ih (i + 1) (by omega) fun s hs2 => ?_
    rw [List.take_add_one, hx] at hs2
    rcases List.mem_append.1 hs2 with g | g
    ·exact hs s g
    ·have : s = x := by simpa using g
     rw [this]; exact c
   ·refine .ifp (by simp [c]) (.of ⟨?_, k1⟩)
    unfold chkF
    rw [if_neg (fun q => c (q.1 x (zll_ hx)))]
  | zero =>
   intro i hd hs
   rw [zg_]; simp only [zce_]
   rw [List.take_of_length_le (by omega)] at hs
   refine .ifn (by rw [show fs.len = sup.length from R.1]; simp; omega) ?_
   rw [h4]
   refine Gx.Wp.jn fun j7 h7 => .bnd rfl (.bnd (l1 (.refl _ _)) ?_)
   unfold zrl_
   obtain ⟨bot2, eb2⟩ := zq_ (fun _ _ _ _ _ => none) (zae_ k (DD k) j7) (show its.length + 1 ≤ k by omega)
   rw [eb2]
   have loop2 : ∀ (d i : Nat) (H : AHeap), i + d = its.length → zc_ H1 H → (∀ x ∈ its.take i, okI x) → Gx.Wp (zi_ bot2 (d + 1) (zae_ k (DD k) j7) (some ⟨h.next, 0, none⟩) fi (fi.len : Int) (i : Int) H) fun z => z.1 = chkF sup its ∧ zc_ h z.2 := fun d => by
    induction d with
    | succ d ih =>
     intro i H hd kp hi
     rw [zg_]; simp only [zae_]
     obtain ⟨x, hx⟩ := zv_ (l := its) (i := i) (by omega)
     obtain ⟨q, b1, b2, _⟩ := (S.keeps (k1.trans kp)).ld zG_ (by decide) hx
     refine .ifp (by rw [S.len]; simp; omega) (.bnd b1 (.bnd b2 (.bnd (zvb_ x) (Wp.newE fun H3 e3 k3 n3 g3 => Wp.stL g3 rfl rfl rfl (by decide) fun H5 c5 n5 g5 => ?_))))
     have k5 : zc_ H1 H5 := kp.trans (k3.keepsS c5 fun y hy => by subst hy; omega)
     have gx : H5.get H.next = some (.cells (itC x) 57 true 0) := g5
     refine .bnd (zA_ gx rfl) (.bnd (zvb_ x) (.call (zem_ k _ x H5) fun r ⟨q1, q2⟩ => ?_))
     by_cases c : okI x
     ·have h0 : r.1 = 0 := by rw [q1]; unfold chkI; rw [if_pos c]
      refine .ifn (by simp [h0]) ?_
      rw [Gx.w1 (by omega)]
      refine ih (i + 1) r.2 (by omega) (k5.trans q2) fun z hz => ?_
      rw [List.take_add_one, hx] at hz
      rcases List.mem_append.1 hz with g | g
      ·exact hi z g
      ·have : z = x := by simpa using g
       rw [this]; exact c
     ·have h0 : r.1 = 1 := by rw [q1]; unfold chkI; rw [if_neg c]
      refine .ifp (by simp [h0]) (.of ⟨?_, k1.trans (k5.trans q2)⟩)
      rw [h0]; unfold chkF
      rw [if_neg (fun q => c (q.2 x (zll_ hx)))]
    | zero =>
     intro i H hd kp hi
     rw [zg_]; simp only [zae_]
     rw [List.take_of_length_le (by omega)] at hi
     refine .ifn (by rw [S.len]; simp; omega) ?_
     rw [h7]
     have hsz : zCi_ sup its := ⟨hs, hi⟩
     refine Gx.Wp.jn fun j10 h10 => .bnd rfl (.bnd (l0 kp) (.call (zNw_ (R.keeps (k1.trans kp)) (by omega) (by omega)) fun r1 ⟨q1, e1⟩ => ?_))
     have kr := kp.trans e1
     by_cases c : sup.Pairwise ltB
     ·refine .ifn (by simp [q1.2 c]) (.bnd rfl (.bnd (l1 kr) (.call (zFw_ hk (S.keeps (k1.trans kr)) (by omega) (by omega)) fun r2 ⟨q2, e2⟩ => ?_)))
      rw [h10]
      by_cases c2 : its.Pairwise zhk_
      ·refine .ifn (by simp [q2.2 c2]) (.of ⟨?_, k1.trans (kr.trans e2)⟩)
       unfold chkF
       rw [if_pos hsz, if_pos ⟨c, c2⟩]
      ·have : r2.1 = false := by cases e : r2.1; rfl; exact absurd (q2.1 e) c2
       refine .ifp (by simp [this]) (.of ⟨?_, k1.trans (kr.trans e2)⟩)
       unfold chkF
       rw [if_pos hsz, if_neg (fun q => c2 q.2)]
     ·have : r1.1 = false := by cases e : r1.1; rfl; exact absurd (q1.1 e) c
      rw [h10]
      refine .ifp (by simp [this]) (.ifp rfl (.of ⟨?_, k1.trans kr⟩))
      unfold chkF
      rw [if_pos hsz, if_neg (fun q => c q.1)]
   exact loop2 its.length 0 H1 (by omega) (.refl _ _) (fun x hx => by simp at hx)
 exact loop sup.length 0 (by omega) (fun x hx => by simp at hx)
end
section
variable {k : Nat} {h : AHeap} {fs fi : Slc} {sup : List ByteArray} {its : List It}
end
def zyf_ (x : It) : List UInt8 := bl x.1 ++ bl x.2.1 ++ [UInt8.ofNat x.2.2.1.toNat] ++ leb x.2.2.2.1.toNat ++ leb x.2.2.2.2.1.toNat ++ leb x.2.2.2.2.2.toNat
theorem leb3 {n : Nat} (h : n ≤ 65536) : (leb n).length ≤ 3 := zJb_ 2 n (by omega)
theorem zXn_ {x : It} (h : okI x) : (zyf_ x).length ≤ 74 := by
 obtain ⟨h1, h2, h3, h4, h5, h6⟩ := h
 have a := leb3 (n := x.2.2.2.1.toNat) (by omega)
 have b := leb3 (n := x.2.2.2.2.1.toNat) (by omega)
 have c := leb3 (n := x.2.2.2.2.2.toNat) (by omega)
 have e1 : (bl x.1).length = 32 := h1
 have e2 : (bl x.2.1).length = 32 := h2
 simp only [zyf_, List.length_append, List.length_singleton]
 omega
theorem zkC_ (s : ByteArray) : bA (bl s) = s := rfl
theorem oneB {H : AHeap} {b : Nat} {v : Int} {e : TypeId} (hg : H.get b = some (.cells [.int .u8 v] e true 0)) : zeb_ H ⟨some ⟨b, 0, some 0⟩, 1, 1⟩ = some (bA [UInt8.ofNat v.toNat]) := by
 simp only [zeb_]
 rw [zkf_ hg (by simp)]
 rfl
section
variable {k : Nat} {h : AHeap}
theorem zNz_ (D : za_) (hk : 20 ≤ k) {x : It} (ok : okI x) (h : AHeap) : Gx.Wp (znj_ k D x h) fun z => z.1 = bA (zyf_ x) ∧ zc_ h z.2 := by
 have hll := zXn_ ok
 obtain ⟨s1, s2, s3, s4, s5, s6⟩ := ok
 simp only [znj_]
 refine Wp.newE fun h1 e1 k1 n1 g1 => ?_
 obtain ⟨h2, e2⟩ : ∃ h2, h2 = AHeap.resv h1 1 := ⟨_, rfl⟩
 rw [← e2]
 have k2 : zc_ h1 h2 := ⟨by rw [e2]; show h1.next ≤ h1.next + 1; omega, fun b hb _ => by rw [e2]; rfl⟩
 have n2 : h2.next = h1.next + 1 := by rw [e2]; rfl
 have gx : h2.get h.next = some (.cells (itC x) 57 true 0) := k2.got (by omega) g1
 have pi : ∀ {H : AHeap}, zc_ h2 H → ∀ (o : Nat) (n : Int), (itC x)[o]? = some (.int .i64 n) → ldI .i64 ⟨h.next, o, none⟩ H = some n := fun kk o n e => zp_ (kk.got (by omega) gx) e
 have ps : ∀ {H : AHeap}, zc_ h2 H → ∀ (o : Nat) (t : ByteArray), (itC x)[o]? = some (.string t) → ldS ⟨h.next, o, none⟩ H = some t := fun kk o t e => by
  have := kk.got (by omega) gx
  simp [ldS, AHeap.rd1, this, e, decS]
 obtain ⟨a, ea⟩ : ∃ a : Nat, x.2.2.2.1 = (a : Int) := ⟨x.2.2.2.1.toNat, by omega⟩
 obtain ⟨b, eb⟩ : ∃ b : Nat, x.2.2.2.2.1 = (b : Int) := ⟨x.2.2.2.2.1.toNat, by omega⟩
 obtain ⟨c, ec⟩ : ∃ c : Nat, x.2.2.2.2.2 = (c : Int) := ⟨x.2.2.2.2.2.toNat, by omega⟩
 have k0 : zc_ h2 h2 := .refl _ _
 have i3 : (itC x)[3]? = some (.int .i64 (a : Int)) := by rw [← ea]; rfl
 have i4 : (itC x)[4]? = some (.int .i64 (b : Int)) := by rw [← eb]; rfl
 have i5 : (itC x)[5]? = some (.int .i64 (c : Int)) := by rw [← ec]; rfl
 refine .bnd (pi k0 3 _ i3) (.call (zqg_ D hk a (by omega) h2) fun r4 ⟨q4, k4⟩ => .bnd (pi k4 4 _ i4) (.gp (ssw1 (by rw [pi k0 4 _ i4]; rfl)) (.call (zqg_ D hk b (by omega) r4.2) fun r8 ⟨q8, k8'⟩ => ?_)))
 have k8 := k4.trans k8'
 refine .bnd (pi k8 5 _ i5) (.gp (fun H hH => ?_) (.call (zqg_ D hk c (by omega) r8.2) fun r12 ⟨q12, k12'⟩ => ?_))
 ·simp only [List.mem_cons, List.not_mem_nil, or_false] at hH
  dsimp only
  rcases hH with e | e
  ·rw [e, pi k4 5 _ i5]; rfl
  ·rw [e, pi k0 5 _ i5]; rfl
 have k12 := k8.trans k12'
 have hs : ∀ (o : Nat) (t : ByteArray), (itC x)[o]? = some (.string t) → zKb_ [r8.2, r4.2, h2] (fun H => (ldS ⟨h.next, o, none⟩ H).bind fun y => some (.string y)) (.string t) := fun o t e H hH => by
  simp only [List.mem_cons, List.not_mem_nil, or_false] at hH
  dsimp only
  rcases hH with e2 | e2 | e2
  ·rw [e2, ps k8 o t e]; rfl
  ·rw [e2, ps k4 o t e]; rfl
  ·rw [e2, ps k0 o t e]; rfl
 refine .bnd (ps k12 0 x.1 rfl) (.gp (hs 0 x.1 rfl) (.bnd (ps k12 1 x.2.1 rfl) (.gp (hs 1 x.2.1 rfl) (.ifp (by omega) (.bnd (pi k12 2 x.2.2.1 rfl) (.gp (fun H hH => ?_) ?_))))))
 ·simp only [List.mem_cons, List.not_mem_nil, or_false] at hH
  dsimp only
  rcases hH with e | e | e
  ·rw [e, pi k8 2 _ rfl]; rfl
  ·rw [e, pi k4 2 _ rfl]; rfl
  ·rw [e, pi k0 2 _ rfl]; rfl
 have nk := k12.nx
 obtain ⟨h22, e22⟩ : ∃ h22, h22 = AHeap.set r12.2 (h1.next + 0) (.cells [.int .u8 (IntKind.wrap .u8 x.2.2.1)] 5 true 0) := ⟨_, rfl⟩
 rw [← e22]
 have g22 : h22.get (h1.next + 0) = some (.cells [.int .u8 (IntKind.wrap .u8 x.2.2.1)] 5 true 0) := by rw [e22]; simp
 have ew : IntKind.wrap .u8 x.2.2.1 = x.2.2.1 := Gx.w8 _ (by omega)
 have kz : zc_ h h22 := by rw [e22]; exact zc_.set (Chg.trans (Chg.trans k1 k2) k12) (by omega)
 refine .bnd (oneB g22) (.gp ⟨_, g22, fun H hH => by dsimp only; rw [oneB hH]; rfl⟩ ?_)
 rw [q4, q8, q12, ew]
 have z1 : (x.1 ++ x.2.1) = bA (bl x.1 ++ bl x.2.1) := by rw [← zsl_, zkC_, zkC_]
 rw [z1, zsl_, zsl_, zsl_, zsl_]
 have zl : (zyf_ x) = ((((bl x.1 ++ bl x.2.1) ++ [UInt8.ofNat x.2.2.1.toNat]) ++ leb a) ++ leb b) ++ leb c := by
  unfold zyf_
  rw [ea, eb, ec]; rfl
 rw [zl] at hll
 simp only [zWc_, List.length_append] at hll ⊢
 refine .ifp (by omega) (.ifp (by omega) (.ifp (by omega) (.ifp (by omega) (.of ⟨?_, kz⟩))))
 rw [zl]
end
def zSd_ : List UInt8 := [71, 82, 84, 73, 1]
def supB (sup : List ByteArray) : List UInt8 := sup.flatMap bl
def itsB (its : List It) : List UInt8 := its.flatMap zyf_
def zW_ (sup : List ByteArray) (its : List It) : List UInt8 := zSd_ ++ leb sup.length ++ supB sup ++ leb its.length ++ itsB its
theorem zeq_ {sup : List ByteArray} (h : ∀ s ∈ sup, s.size = 32) : (supB sup).length = 32 * sup.length := by
 induction sup with
 | nil => rfl
 | cons s sup ih =>
  have e : (bl s).length = 32 := h s (List.mem_cons_self ..)
  simp only [supB, List.flatMap_cons, List.length_append, List.length_cons]
  have := ih fun t ht => h t (List.mem_cons_of_mem _ ht)
  unfold supB at this
  omega
theorem zDj_ {its : List It} (h : ∀ x ∈ its, okI x) : (itsB its).length ≤ 74 * its.length := by
 induction its with
 | nil => exact Nat.le_refl _
 | cons x its ih =>
  have e := zXn_ (h x (List.mem_cons_self ..))
  simp only [itsB, List.flatMap_cons, List.length_append, List.length_cons]
  have := ih fun t ht => h t (List.mem_cons_of_mem _ ht)
  unfold itsB at this
  omega
theorem zfz_ {sup : List ByteArray} {its : List It} (h : zCi_ sup its) (h1 : sup.length ≤ 4096) (h2 : its.length ≤ 4096) : (zW_ sup its).length ≤ 500000 := by
 have a := zJb_ 1 sup.length (by omega)
 have b := zJb_ 1 its.length (by omega)
 have c := zeq_ h.1
 have d := zDj_ h.2
 simp only [zW_, List.length_append, zSd_, List.length_cons, List.length_nil]
 omega
theorem zaE_ (n : Nat) : decide ((n : Int) ≤ 65536) = decide (n ≤ 65536) := by
 by_cases h : n ≤ 65536
 ·rw [decide_eq_true h, decide_eq_true (by omega)]
 ·rw [decide_eq_false h, decide_eq_false (by omega)]
section
variable {k : Nat} {h : AHeap} {fs fi : Slc} {sup : List ByteArray} {its : List It}
theorem zEk_ (D : za_) (hk : 5000 ≤ k) (R : Row encS h fs sup) (S : RowW 6 itC h fi its) (ok : zCi_ sup its) (hb : sup.length + its.length < 9000000000000000000) :
  Gx.Wp (zVe_ k D (fs, fi) h) fun z => (if 4096 < sup.length ∨ 4096 < its.length then z.1 = (⟨#[]⟩, false) else z.1 = (bA (zW_ sup its), decide ((zW_ sup its).length ≤ 65536))) ∧ zc_ h z.2 := by
 simp only [zVe_]
 have fl : (fs.len : Int) = (sup.length : Int) := by rw [show fs.len = sup.length from R.1]
 have il : (fi.len : Int) = (its.length : Int) := by rw [S.len]
 refine Wp.newE fun h1 e1 k1 n1 g1 => ?_
 have l0 : ∀ {H : AHeap}, zc_ h1 H → ldL ⟨h.next, 0, none⟩ H = some fs := fun kk => zB_ (kk.got (by omega) g1) rfl
 have l1 : ∀ {H : AHeap}, zc_ h1 H → ldL ⟨h.next, 1, none⟩ H = some fi := fun kk => zB_ (kk.got (by omega) g1) rfl
 refine .bnd (l0 (.refl _ _)) (.bnd (l1 (.refl _ _)) ?_)
 by_cases c : 4096 < sup.length ∨ 4096 < its.length
 ·refine .ifp ?_ (.of ⟨by rw [if_pos c], k1⟩)
  rw [fl, il]
  by_cases c2 : its.length > sup.length
  ·rw [if_pos (by omega)]; simp; omega
  ·rw [if_neg (by omega)]; simp; omega
 refine Gx.Wp.mono (Q := fun z => z.1 = (bA (zW_ sup its), decide ((zW_ sup its).length ≤ 65536)) ∧ zc_ h z.2) ?_ fun z hz => by rw [if_neg c]; exact hz
 have c1 : sup.length ≤ 4096 := by omega
 have c2 : its.length ≤ 4096 := by omega
 have htl := zfz_ ok c1 c2
 refine .ifn ?_ (Wp.newE fun h5 e5 k5 n5 g5 => ?_)
 ·rw [fl, il]
  by_cases c2 : its.length > sup.length
  ·rw [if_pos (by omega)]; simp; omega
  ·rw [if_neg (by omega)]; simp; omega
 have B5 : BuS h1.next h5 h1.next ⟨none, 0, 0⟩ [] := BuS.new h1 g5 n5
 refine .bnd (l0 k5) ?_
 rw [fl]
 refine .call (zqg_ D (by omega) sup.length (by omega) h5) fun r7 ⟨q7, k7⟩ => ?_
 rw [q7]
 have a3 := zJb_ 1 sup.length (by omega)
 have b3 := zJb_ 1 its.length (by omega)
 have sl := zeq_ ok.1
 have tl := zDj_ ok.2
 refine .ifp (by rw [zWc_]; show 5 + _ ≤ _; omega) ?_
 have eh : ((⟨#[71, 82, 84, 73, 1]⟩ : ByteArray) ++ bA (leb sup.length)) = bA (zSd_ ++ leb sup.length) := by rw [← zsl_]; rfl
 rw [eh]
 have kh7 : zc_ h1 r7.2 := k5.trans k7
 refine .call (zbe_ D (B5.keeps k7) _ (by rw [zWc_, List.length_append]; show 2 * (0 + (5 + _)) ≤ _; omega)) fun r8 ⟨s8, B8, c8, o8⟩ => ?_
 rw [List.nil_append, show bl (bA (zSd_ ++ leb sup.length)) = zSd_ ++ leb sup.length from rfl] at B8
 have kh8 : zc_ h1 r8.2 := kh7.keepsS c8 fun y hy => ((B5.keeps k7).own hy).1
 refine Gx.Wp.jn fun j12 h12 => .bnd (l0 kh8) ?_
 unfold zQm_
 obtain ⟨bot, eb⟩ := zq_ (fun _ _ _ _ _ _ => none) (zFe_ k D j12) (show sup.length + 1 ≤ k by omega)
 rw [eb]
 have loop : ∀ (d i : Nat) (s : Slc) (H : AHeap), i + d = sup.length → zc_ h1 H → BuS h1.next H h1.next s (zSd_ ++ leb sup.length ++ supB (sup.take i)) → Gx.Wp (zi_ bot (d + 1) (zFe_ k D j12) (some ⟨h.next, 0, none⟩) (some ⟨h1.next, 0, none⟩) fs (fs.len : Int) (i : Int) H) fun z => z.1 = (bA (zW_ sup its), decide ((zW_ sup its).length ≤ 65536)) ∧ zc_ h z.2 := fun d => by
  induction d with
  | succ d ih =>
   intro i s H hd kp B
   rw [zg_]; simp only [zFe_]
   obtain ⟨x, hx⟩ := zv_ (l := sup) (i := i) (by omega)
   obtain ⟨q, b1, b2⟩ := Row.ldS (R.keeps (k1.trans kp)) hx
   have hx32 := ok.1 x (zll_ hx)
   have tl2 : (supB (sup.take i)).length = 32 * (sup.take i).length := zeq_ fun s hs => ok.1 s (List.mem_of_mem_take hs)
   rw [List.length_take] at tl2
   refine .ifp (by rw [fl]; simp; omega) (.bnd b1 (.bnd b2 (.call (zbe_ D B x (by rw [List.length_append, List.length_append, tl2, hx32]; show 2 * (5 + _ + _ + _) ≤ _; omega)) fun r ⟨s2, B2, cc, o2⟩ => ?_)))
   rw [Gx.w1 (by omega)]
   refine ih (i + 1) s2 r.2 (by omega) (kp.keepsS cc fun y hy => (B.own hy).1) ?_
   have : supB (sup.take (i + 1)) = supB (sup.take i) ++ bl x := by rw [List.take_add_one, hx]; simp [supB]
   rw [this, ← List.append_assoc]; exact B2
  | zero =>
   intro i s H hd kp B
   rw [zg_]; simp only [zFe_]
   rw [List.take_of_length_le (by omega)] at B
   refine .ifn (by rw [fl]; simp; omega) ?_
   rw [h12]
   refine .bnd rfl (.bnd (show ldL ⟨h.next, 0 + 1, none⟩ H = some fi from l1 kp) ?_)
   rw [il]
   refine .call (zqg_ D (by omega) its.length (by omega) H) fun r15 ⟨q15, k15⟩ => ?_
   rw [q15]
   refine .call (zbe_ D (B.keeps k15) _ (by rw [zWc_, List.length_append, List.length_append, sl]; show 2 * (5 + _ + _ + _) ≤ _; omega)) fun r16 ⟨s16, B16, c16, o16⟩ => ?_
   rw [show bl (bA (leb its.length)) = leb its.length from rfl] at B16
   have kp16 : zc_ h1 r16.2 := (kp.trans k15).keepsS c16 fun y hy => ((B.keeps k15).own hy).1
   refine Gx.Wp.jn fun j19 h19 => .bnd rfl (.bnd (show ldL ⟨h.next, 0 + 1, none⟩ r16.2 = some fi from l1 kp16) ?_)
   unfold zXm_
   obtain ⟨bot2, eb2⟩ := zq_ (fun _ _ _ _ _ => none) (zLe_ k D j19) (show its.length + 1 ≤ k by omega)
   rw [eb2]
   have loop2 : ∀ (d i : Nat) (s : Slc) (H : AHeap), i + d = its.length → zc_ h1 H → BuS h1.next H h1.next s (zSd_ ++ leb sup.length ++ supB sup ++ leb its.length ++ itsB (its.take i)) → Gx.Wp (zi_ bot2 (d + 1) (zLe_ k D j19) (some ⟨h1.next, 0, none⟩) fi (fi.len : Int) (i : Int) H) fun z => z.1 = (bA (zW_ sup its), decide ((zW_ sup its).length ≤ 65536)) ∧ zc_ h z.2 := fun d => by
    induction d with
    | succ d ih =>
     intro i s H hd kp B
     rw [zg_]; simp only [zLe_]
     obtain ⟨x, hx⟩ := zv_ (l := its) (i := i) (by omega)
     obtain ⟨q, b1, b2, _⟩ := (S.keeps (k1.trans kp)).ld zG_ (by decide) hx
     have okx := ok.2 x (zll_ hx)
     refine .ifp (by rw [il]; simp; omega) (.bnd b1 (.bnd b2 (.bnd (zvb_ x) (Wp.newE fun H3 e3 k3 n3 g3 => Wp.stL g3 rfl rfl rfl (by decide) fun H5 c5 n5 g5 => ?_))))
     have k5 : zc_ H H5 := k3.keepsS c5 fun y hy => by subst hy; omega
     have gx : H5.get H.next = some (.cells (itC x) 57 true 0) := g5
     refine .bnd (zA_ gx rfl) (.bnd (zvb_ x) (.call (zNz_ D (by omega) okx H5) fun r ⟨q1, q2⟩ => ?_))
     rw [q1]
     have lx := zXn_ okx
     have tl3 : (itsB (its.take i)).length ≤ 74 * (its.take i).length := zDj_ fun s hs => ok.2 s (List.mem_of_mem_take hs)
     rw [List.length_take] at tl3
     have B5 := B.keeps (k5.trans q2)
     refine .call (zbe_ D B5 (bA (zyf_ x)) (by simp only [zWc_, List.length_append, sl, zSd_, List.length_cons, List.length_nil]; omega)) fun r2 ⟨s2, B2, cc, o2⟩ => ?_
     rw [Gx.w1 (by omega)]
     refine ih (i + 1) s2 r2.2 (by omega) ((kp.trans (k5.trans q2)).keepsS cc fun y hy => (B5.own hy).1) ?_
     have : itsB (its.take (i + 1)) = itsB (its.take i) ++ zyf_ x := by rw [List.take_add_one, hx]; simp [itsB]
     rw [this, ← List.append_assoc]; exact B2
    | zero =>
     intro i s H hd kp B
     rw [zg_]; simp only [zLe_]
     rw [List.take_of_length_le (by omega)] at B
     refine .ifn (by rw [il]; simp; omega) ?_
     rw [h19]
     have eT : zSd_ ++ leb sup.length ++ supB sup ++ leb its.length ++ itsB its = zW_ sup its := rfl
     rw [eT] at B
     refine .call (zBo_ D B (by omega)) fun r20 ⟨q20, c20, pv, g20⟩ => ?_
     have hsl : s.len = (zW_ sup its).length := B.acc.row.1
     have elen : zO_ k D (some ⟨h1.next, 0, none⟩) r20.2 = some (((zW_ sup its).length : Int), r20.2) := by
      simp only [zO_]
      exact bnd rfl (bnd (zB_ (o := 0 + 1) g20 rfl) (by rw [hsl]))
     refine .bnd elen (.of ⟨?_, k1.trans (kp.keepsS c20 fun y hy => (B.own hy).1)⟩)
     rw [q20]
     dsimp only
     rw [zaE_]
   exact loop2 its.length 0 s16 r16.2 (by omega) kp16 (by simpa [itsB] using B16)
 exact loop sup.length 0 s8 r8.2 (by omega) kh8 (by simpa [supB] using B8)
def tooB (sup : List ByteArray) (its : List It) : Prop := 4096 < sup.length ∨ 4096 < its.length ∨ 65536 < (zW_ sup its).length
theorem zdq_ {sup : List ByteArray} {its : List It} : chkF sup its = 0 ↔ zCi_ sup its ∧ upOk sup its := by
 unfold chkF
 by_cases a : zCi_ sup its
 ·by_cases b : upOk sup its
  ·rw [if_pos a, if_pos b]; simp [a, b]
  ·rw [if_pos a, if_neg b]; simp [b]
 ·rw [if_neg a]; simp [a]
end
def lebQ : Nat → Bool → List UInt8 → Option (Nat × List UInt8)
 | 0, _, _ => none
 | _ + 1, _, [] => none
 | d + 1, f, c :: l => if 128 ≤ c.toNat then (lebQ d false l).map fun p => (c.toNat - 128 + 128 * p.1, p.2) else if c.toNat = 0 ∧ f = false then none else some (c.toNat, l)
theorem zPv_ : ∀ {d : Nat} {f : Bool} {l : List UInt8} {n : Nat} {r : List UInt8}, lebQ d f l = some (n, r) → ∃ m, m ≤ l.length ∧ r = l.drop m
 | 0, _, _, _, _, h => by simp [lebQ] at h
 | _ + 1, _, [], _, _, h => by simp [lebQ] at h
 | d + 1, f, c :: l, n, r, h => by
  unfold lebQ at h
  split at h
  ·rw [Option.map_eq_some_iff] at h
   obtain ⟨⟨m, r2⟩, h1, h2⟩ := h
   cases h2
   obtain ⟨q, q1, q2⟩ := zPv_ h1
   exact ⟨q + 1, by simpa using q1, by simpa using q2⟩
  ·split at h
   ·cases h
   ·cases h; exact ⟨1, by simp, by simp⟩
theorem zNt_ : ∀ {d : Nat} {f : Bool} {l : List UInt8} {n : Nat} {r : List UInt8}, lebQ d f l = some (n, r) → l = leb n ++ r ∧ (f = false → 0 < n)
 | 0, _, _, _, _, h => by simp [lebQ] at h
 | _ + 1, _, [], _, _, h => by simp [lebQ] at h
 | d + 1, f, c :: l, n, r, h => by
  unfold lebQ at h
  have hc := c.toNat_lt
  split at h
  ·rename_i hge
   rw [Option.map_eq_some_iff] at h
   obtain ⟨⟨m, r2⟩, h1, h2⟩ := h
   cases h2
   obtain ⟨q1, q2⟩ := zNt_ h1
   have hm : 0 < m := q2 rfl
   refine ⟨?_, fun _ => by omega⟩
   rw [zwn_ (by omega), show (c.toNat - 128 + 128 * m) % 128 + 128 = c.toNat by omega, show (c.toNat - 128 + 128 * m) / 128 = m by omega, q1, UInt8.ofNat_toNat]
   rfl
  ·rename_i hlt
   split at h
   ·cases h
   ·rename_i hz
    cases h
    refine ⟨?_, fun hf => ?_⟩
    ·rw [zIh_ (by omega), UInt8.ofNat_toNat]; rfl
    ·by_cases e : c.toNat = 0
     ·exact absurd ⟨e, hf⟩ hz
     ·omega
theorem zRr_ (d : Nat) : ∀ {n : Nat} {f : Bool} (r : List UInt8), n < 128 ^ (d + 1) → (f = false → 0 < n) → lebQ (d + 1) f (leb n ++ r) = some (n, r) := by
 have one : ∀ (d n : Nat) (f : Bool) (r : List UInt8), n < 128 → (f = false → 0 < n) → lebQ (d + 1) f (leb n ++ r) = some (n, r) := fun d n f r c hf => by
  rw [zIh_ c]
  show (if 128 ≤ (UInt8.ofNat n).toNat then _ else if (UInt8.ofNat n).toNat = 0 ∧ f = false then none else some ((UInt8.ofNat n).toNat, r)) = _
  have e : (UInt8.ofNat n).toNat = n := by simp [UInt8.toNat_ofNat']; omega
  rw [e, if_neg (by omega), if_neg (fun q => by have := hf q.2; omega)]
 induction d with
 | zero => exact fun {n f} r h hf => one 0 n f r (by simpa using h) hf
 | succ d ih =>
  intro n f r h hf
  by_cases c : n < 128
  ·exact one (d + 1) n f r c hf
  ·rw [zwn_ c]
   have hlt : n % 128 + 128 < 256 := by omega
   have e : (UInt8.ofNat (n % 128 + 128)).toNat = n % 128 + 128 := by simp [UInt8.toNat_ofNat']; omega
   show (if 128 ≤ (UInt8.ofNat (n % 128 + 128)).toNat then (lebQ (d + 1) false (leb (n / 128) ++ r)).map (fun p => ((UInt8.ofNat (n % 128 + 128)).toNat - 128 + 128 * p.1, p.2)) else _) = _
   rw [e, if_pos (by omega), ih r ((Nat.div_lt_iff_lt_mul (by decide)).2 (by rw [Nat.pow_succ] at h; exact h)) (fun _ => by omega)]
   simp
   omega
def pS (most : Nat) (l : List UInt8) : Option (Nat × List UInt8) := (lebQ 9 true l).bind fun p => if most < p.1 then none else some p
abbrev Rd := Option (List UInt8)
def opS (most : Nat) (s : Rd) : Nat × Rd := match s.bind (pS most) with
 | some (n, l) => (n, some l)
 | none => (0, none)
def opB (n : Nat) (s : Rd) : ByteArray × Rd := match s with
 | some l => if n ≤ l.length then (bA (l.take n), some (l.drop n)) else (⟨#[]⟩, none)
 | none => (⟨#[]⟩, none)
def opF (s : Rd) : Nat × Rd := match s with
 | some (c :: l) => (c.toNat, some l)
 | _ => (0, none)
def opI (s : Rd) : It × Rd :=
 let a := opB 32 s
 let b := opB 32 a.2
 let c := opF b.2
 let d := opS 65536 c.2
 let e := opS 65536 d.2
 let f := opS 65536 e.2
 ((a.1, b.1, (c.1 : Int), (d.1 : Int), (e.1 : Int), (f.1 : Int)), f.2)
def runL {α : Type} (op : Rd → α × Rd) : Nat → Rd → List α × Rd
 | 0, s => ([], s)
 | n + 1, s => let p := op s; match p.2 with
  | none => ([], none)
  | some l => let q := runL op n (some l); (p.1 :: q.1, q.2)
def zNi_ (s : Rd) : (List ByteArray × List It) × Rd :=
 let a := opS 4096 s
 let b := runL (opB 32) a.1 a.2
 let c := opS 4096 b.2
 let d := runL opI c.1 c.2
 ((b.1, d.1), d.2)
open Classical in
noncomputable def decF (s : List UInt8) : Option (List ByteArray × List It) :=
 if s.length ≤ 65536 ∧ s.take 5 = zSd_ then (if (zNi_ (some (s.drop 5))).2 = some [] ∧ chkF (zNi_ (some (s.drop 5))).1.1 (zNi_ (some (s.drop 5))).1.2 = 0 then some (zNi_ (some (s.drop 5))).1 else none) else none
theorem zGD_ {most n : Nat} {l r : List UInt8} (h : pS most l = some (n, r)) : l = leb n ++ r ∧ n ≤ most := by
 unfold pS at h
 rw [Option.bind_eq_some_iff] at h
 obtain ⟨p, h1, h2⟩ := h
 split at h2
 ·cases h2
 ·cases h2
  exact ⟨(zNt_ h1).1, by omega⟩
theorem zRD_ {most n : Nat} (r : List UInt8) (h : n ≤ most) (hn : n < 128 ^ 9) : pS most (leb n ++ r) = some (n, r) := by
 unfold pS
 rw [zRr_ 8 r hn (fun e => by cases e)]
 show (if most < n then none else some (n, r)) = _
 rw [if_neg (by omega)]
theorem zho_ {most n : Nat} (r : List UInt8) (h : n ≤ most) (hn : n < 128 ^ 9) : opS most (some (leb n ++ r)) = (n, some r) := by
 unfold opS
 rw [show (some (leb n ++ r)).bind (pS most) = some (n, r) from zRD_ r h hn]
theorem zGj_ {n : Nat} {l : List UInt8} (h : n ≤ l.length) : opB n (some l) = (bA (l.take n), some (l.drop n)) := by simp [opB, h]
theorem zDu_ (s : ByteArray) (r : List UInt8) {n : Nat} (h : s.size = n) : opB n (some (bl s ++ r)) = (s, some r) := by
 have e : (bl s).length = n := h
 rw [zGj_ (by rw [List.length_append]; omega)]
 rw [← e, List.take_left', List.drop_left']
 ·rfl
 ·rfl
 ·rfl
theorem zLD_ {x : It} (ok : okI x) (r : List UInt8) : opI (some (zyf_ x ++ r)) = (x, some r) := by
 obtain ⟨s1, s2, s3, s4, s5, s6⟩ := ok
 unfold opI zyf_
 simp only [List.append_assoc]
 rw [zDu_ x.1 _ s1]
 dsimp only
 rw [zDu_ x.2.1 _ s2]
 dsimp only
 have ek : (UInt8.ofNat x.2.2.1.toNat).toNat = x.2.2.1.toNat := by simp [UInt8.toNat_ofNat']; omega
 have ef : ∀ (c : UInt8) (m : List UInt8), opF (some ([c] ++ m)) = (c.toNat, some m) := fun _ _ => rfl
 rw [ef]
 dsimp only
 rw [ek]
 rw [zho_ _ (by omega) (by omega)]
 dsimp only
 rw [zho_ _ (by omega) (by omega)]
 dsimp only
 rw [zho_ _ (by omega) (by omega)]
 obtain ⟨a, b, c, d, e, f⟩ := x
 simp only [Prod.mk.injEq, true_and, and_true]
 dsimp only at s3 s4 s5 s6
 omega
theorem zex_ : ∀ {sup : List ByteArray} (r : List UInt8), (∀ s ∈ sup, s.size = 32) → runL (opB 32) sup.length (some (supB sup ++ r)) = (sup, some r)
 | [], r, _ => rfl
 | s :: sup, r, h => by
  have e : supB (s :: sup) ++ r = bl s ++ (supB sup ++ r) := by simp [supB]
  rw [e, List.length_cons]
  unfold runL
  rw [zDu_ s _ (h s (List.mem_cons_self ..))]
  dsimp only
  rw [zex_ r fun t ht => h t (List.mem_cons_of_mem _ ht)]
theorem zTw_ : ∀ {its : List It} (r : List UInt8), (∀ x ∈ its, okI x) → runL opI its.length (some (itsB its ++ r)) = (its, some r)
 | [], r, _ => rfl
 | x :: its, r, h => by
  have e : itsB (x :: its) ++ r = zyf_ x ++ (itsB its ++ r) := by simp [itsB]
  rw [e, List.length_cons]
  unfold runL
  rw [zLD_ (h x (List.mem_cons_self ..))]
  dsimp only
  rw [zTw_ r fun t ht => h t (List.mem_cons_of_mem _ ht)]
theorem zkA_ {sup : List ByteArray} {its : List It} (c : chkF sup its = 0) (t : ¬ tooB sup its) : decF (zW_ sup its) = some (sup, its) := by
 have ok := (zdq_.1 c).1
 have t1 : sup.length ≤ 4096 := Nat.le_of_not_lt fun q => t (.inl q)
 have t2 : its.length ≤ 4096 := Nat.le_of_not_lt fun q => t (.inr (.inl q))
 have t3 : (zW_ sup its).length ≤ 65536 := Nat.le_of_not_lt fun q => t (.inr (.inr q))
 have e1 : (zW_ sup its).take 5 = zSd_ := by simp [zW_, zSd_]
 have e2 : (zW_ sup its).drop 5 = leb sup.length ++ (supB sup ++ (leb its.length ++ (itsB its ++ []))) := by simp [zW_, zSd_]
 have e3 : zNi_ (some ((zW_ sup its).drop 5)) = ((sup, its), some []) := by
  rw [e2]
  unfold zNi_
  rw [zho_ _ t1 (by omega)]
  dsimp only
  rw [zex_ _ ok.1]
  dsimp only
  rw [zho_ _ t2 (by omega)]
  dsimp only
  rw [zTw_ _ ok.2]
 unfold decF
 rw [if_pos ⟨t3, e1⟩, e3, if_pos ⟨rfl, c⟩]
theorem zXh_ {most : Nat} {s : Rd} {l : List UInt8} (h : (opS most s).2 = some l) : s = some (leb (opS most s).1 ++ l) ∧ (opS most s).1 ≤ most := by
 cases e : s.bind (pS most) with
 | none => simp [opS, e] at h
 | some p =>
  obtain ⟨n, r⟩ := p
  have e2 : opS most s = (n, some r) := by unfold opS; rw [e]
  rw [e2] at h ⊢
  cases h
  rw [Option.bind_eq_some_iff] at e
  obtain ⟨m, e3, e4⟩ := e
  obtain ⟨q1, q2⟩ := zGD_ e4
  exact ⟨by rw [e3, q1], q2⟩
theorem zUr_ {n : Nat} {s : Rd} {l : List UInt8} (h : (opB n s).2 = some l) : s = some (bl (opB n s).1 ++ l) ∧ (opB n s).1.size = n := by
 cases s with
 | none => simp [opB] at h
 | some m =>
  by_cases c : n ≤ m.length
  ·have e : opB n (some m) = (bA (m.take n), some (m.drop n)) := zGj_ c
   rw [e] at h ⊢
   cases h
   refine ⟨?_, by rw [zWc_, List.length_take]; omega⟩
   show some m = some (m.take n ++ m.drop n)
   rw [List.take_append_drop]
  ·simp [opB, c] at h
theorem zEC_ {s : Rd} {l : List UInt8} (h : (opF s).2 = some l) : s = some (UInt8.ofNat (opF s).1 :: l) := by
 match s, h with
 | some (c :: m), h =>
  simp only [opF] at h ⊢
  cases h
  rw [UInt8.ofNat_toNat]
theorem zCC_ {s : Rd} {l : List UInt8} (h : (opI s).2 = some l) : s = some (zyf_ (opI s).1 ++ l) := by
 obtain ⟨a, sa, ea⟩ : ∃ a sa, opB 32 s = (a, sa) := ⟨_, _, rfl⟩
 obtain ⟨b, sb, eb⟩ : ∃ b sb, opB 32 sa = (b, sb) := ⟨_, _, rfl⟩
 obtain ⟨c, sc, ec⟩ : ∃ c sc, opF sb = (c, sc) := ⟨_, _, rfl⟩
 obtain ⟨d, sd, ed⟩ : ∃ d sd, opS 65536 sc = (d, sd) := ⟨_, _, rfl⟩
 obtain ⟨e, se, ee⟩ : ∃ e se, opS 65536 sd = (e, se) := ⟨_, _, rfl⟩
 obtain ⟨f, sf, ef⟩ : ∃ f sf, opS 65536 se = (f, sf) := ⟨_, _, rfl⟩
 have eI : opI s = ((a, b, (c : Int), (d : Int), (e : Int), (f : Int)), sf) := by
  unfold opI
  simp only [ea, eb, ec, ed, ee, ef]
 rw [eI] at h ⊢
 dsimp only at h
 subst h
 obtain ⟨g6, _⟩ := zXh_ (by rw [ef])
 rw [ef] at g6
 obtain ⟨g5, _⟩ := zXh_ (by rw [ee]; exact g6)
 rw [ee] at g5
 obtain ⟨g4, _⟩ := zXh_ (by rw [ed]; exact g5)
 rw [ed] at g4
 have g3 := zEC_ (by rw [ec]; exact g4)
 rw [ec] at g3
 obtain ⟨g2, _⟩ := zUr_ (by rw [eb]; exact g3)
 rw [eb] at g2
 obtain ⟨g1, _⟩ := zUr_ (by rw [ea]; exact g2)
 rw [ea] at g1
 rw [g1]
 unfold zyf_
 simp only [Int.toNat_natCast, List.append_assoc, List.cons_append, List.nil_append]
theorem zgm_ {α : Type} {op : Rd → α × Rd} {n : Nat} {s : Rd} {x : α} {m : List UInt8} (e : op s = (x, some m)) : runL op (n + 1) s = (x :: (runL op n (some m)).1, (runL op n (some m)).2) := by
 conv => lhs; unfold runL
 rw [e]
theorem zhm_ {α : Type} {op : Rd → α × Rd} {n : Nat} {s : Rd} {x : α} (e : op s = (x, none)) : runL op (n + 1) s = ([], none) := by
 conv => lhs; unfold runL
 rw [e]
theorem zXt_ : ∀ {n : Nat} {s : Rd} {l : List UInt8}, (runL (opB 32) n s).2 = some l → s = some (supB (runL (opB 32) n s).1 ++ l) ∧ (runL (opB 32) n s).1.length = n
 | 0, s, l, h => ⟨h, rfl⟩
 | n + 1, s, l, h => by
  obtain ⟨x, sm, e⟩ : ∃ x sm, opB 32 s = (x, sm) := ⟨_, _, rfl⟩
  cases sm with
  | none => rw [zhm_ e] at h; cases h
  | some m =>
   rw [zgm_ e] at h ⊢
   obtain ⟨q1, q2⟩ := zXt_ h
   obtain ⟨g1, _⟩ := zUr_ (show (opB 32 s).2 = some m by rw [e])
   rw [e] at g1
   refine ⟨?_, by simp [q2]⟩
   have q3 := Option.some.inj q1
   rw [g1]
   simp only [supB, List.flatMap_cons, List.append_assoc]
   exact congrArg (fun z => some (bl x ++ z)) q3
theorem zgv_ : ∀ {n : Nat} {s : Rd} {l : List UInt8}, (runL opI n s).2 = some l → s = some (itsB (runL opI n s).1 ++ l) ∧ (runL opI n s).1.length = n
 | 0, s, l, h => ⟨h, rfl⟩
 | n + 1, s, l, h => by
  obtain ⟨x, sm, e⟩ : ∃ x sm, opI s = (x, sm) := ⟨_, _, rfl⟩
  cases sm with
  | none => rw [zhm_ e] at h; cases h
  | some m =>
   rw [zgm_ e] at h ⊢
   obtain ⟨q1, q2⟩ := zgv_ h
   have g1 := zCC_ (show (opI s).2 = some m by rw [e])
   rw [e] at g1
   refine ⟨?_, by simp [q2]⟩
   have q3 := Option.some.inj q1
   rw [g1]
   simp only [itsB, List.flatMap_cons, List.append_assoc]
   exact congrArg (fun z => some (zyf_ x ++ z)) q3
theorem zDD_ {n m i : Nat} (hn : n < 2 ^ i) (hb : n + m * 2 ^ i < 9223372036854775808) : Go.bits .or .i64 (n : Int) ((m * 2 ^ i : Nat) : Int) = ((n + m * 2 ^ i : Nat) : Int) := by
 have hw : ∀ z : Int, 0 ≤ z → z < 2 ^ 63 → IntKind.wrap .i64 z = z := fun z h0 h1 => Gx.w64 z (by omega)
 have e := (bits_nat .i64 63 (by decide) hw n (m * 2 ^ i) (by omega) (by omega)).2
 rw [e]
 congr 1
 have := Nat.two_pow_add_eq_or_of_lt hn m
 rw [Nat.or_comm, Nat.mul_comm, ← this]
 omega
theorem zSz_ : ∀ a : Fin 256, Go.bits .andNot .i64 (a.val : Int) 128 = ((a.val % 128 : Nat) : Int) := by decide +kernel
theorem p128 (i : Nat) : 128 ^ i = 2 ^ (7 * i) := by rw [Nat.pow_mul]
def PRd (H : AHeap) (rb : Nat) (st : Rd) : Prop := ∃ (s : ByteArray) (e : Int), H.get rb = some (.cells [.string s, .int .i64 e] 154 true 0) ∧ s.size ≤ 1000000 ∧ (e = 0 ↔ st.isSome = true) ∧ ∀ l, st = some l → s = bA l
section
variable {k rb : Nat} {H H' : AHeap} {st : Rd}
theorem PRd.chg {S : Nat → Prop} (P : PRd H rb st) (hr : rb < H.next) (c : Chg S H H') (hs : ¬ S rb) : PRd H' rb st := by
 obtain ⟨s, e, h1, h2⟩ := P
 exact ⟨s, e, c.got hr hs h1, h2⟩
theorem PRd.keeps (P : PRd H rb st) (hr : rb < H.next) (c : zc_ H H') : PRd H' rb st := P.chg hr c fun f => f
theorem PRd.ok {l : List UInt8} (g : H.get rb = some (.cells [.string (bA l), .int .i64 0] 154 true 0)) (hl : l.length ≤ 1000000) : PRd H rb (some l) := ⟨bA l, 0, g, hl, by simp, fun l' h => by cases h; rfl⟩
theorem PRd.bad {s : ByteArray} {e : Int} (g : H.get rb = some (.cells [.string s, .int .i64 e] 154 true 0)) (hl : s.size ≤ 1000000) (he : e ≠ 0) : PRd H rb none := ⟨s, e, g, hl, by simpa using he, fun l h => by cases h⟩
theorem zmw_ (D : za_) (hk : 20 ≤ k) (s : ByteArray) (h : AHeap) : ∃ r, zuk_ k D s h = some (r, h) ∧ (match lebQ 9 true (bl s) with
  | some (n, m) => ∃ lg : Nat, lg ≤ s.size ∧ r = ((n : Int), (lg : Int), 0) ∧ m = (bl s).drop lg
  | none => r.2.2 ≠ 0) := by
 simp only [zuk_]
 obtain ⟨Y, hY⟩ : ∃ Y : Nat, Y = min 9 s.size := ⟨_, rfl⟩
 have eY : (if 9 < (s.size : Int) then 9 else (s.size : Int)) = (Y : Int) := by
  by_cases c : 9 < s.size
  ·rw [if_pos (by omega)]; omega
  ·rw [if_neg (by omega)]; omega
 rw [eY]
 have hl : (bl s).length = s.size := rfl
 suffices hh : ∀ j3, j3 = (fun (s1 : ByteArray) (h2 : AHeap) => (if (decide ((s1.size : Int) < 9)) = true then some (((0 : Int), (0 : Int), (10 : Int)), h2) else some ((0, 0, 3), h2))) → ∃ r, zOj_ k D j3 s 0 (Y : Int) 0 h = some (r, h) ∧ (match lebQ 9 true (bl s) with
  | some (n, m) => ∃ lg : Nat, lg ≤ s.size ∧ r = ((n : Int), (lg : Int), 0) ∧ m = (bl s).drop lg
  | none => r.2.2 ≠ 0) from hh _ rfl
 intro j3 h3
 unfold zOj_
 obtain ⟨bot, eb⟩ := zq_ (fun _ _ _ _ _ => none) (zhf_ k D j3) (show Y + 1 ≤ k by omega)
 rw [eb]
 have loop : ∀ (d i n : Nat), i + d = Y → n < 128 ^ i → ∃ r, zi_ bot (d + 1) (zhf_ k D j3) s (n : Int) (Y : Int) (i : Int) h = some (r, h) ∧ (match lebQ (9 - i) (decide (i = 0)) ((bl s).drop i) with
   | some (v, m) => ∃ lg : Nat, lg ≤ s.size ∧ r = (((n + v * 128 ^ i : Nat) : Int), (lg : Int), 0) ∧ m = (bl s).drop lg
   | none => r.2.2 ≠ 0) := fun d => by
  induction d with
  | zero =>
   intro i n hd hn
   obtain rfl : i = Y := by omega
   rw [zg_]; simp only [zhf_]
   rw [if_neg (by simp), h3]
   by_cases c : s.size < 9
   ·refine ⟨(0, 0, 10), by dsimp only; rw [if_pos (by simp; omega)], ?_⟩
    obtain ⟨e, he⟩ : ∃ e, 9 - i = e + 1 := ⟨9 - i - 1, by omega⟩
    rw [List.drop_of_length_le (by omega), he]
    simp [lebQ]
   ·refine ⟨(0, 0, 3), by dsimp only; rw [if_neg (by simp; omega)], ?_⟩
    rw [show 9 - i = 0 by omega]
    simp [lebQ]
  | succ d ih =>
   intro i n hd hn
   rw [zg_]; simp only [zhf_]
   obtain ⟨c, hc⟩ := zv_ (l := bl s) (i := i) (by omega)
   have hcl := c.toNat_lt
   obtain ⟨e, he⟩ : ∃ e, 9 - i = e + 1 := ⟨8 - i, by omega⟩
   have he2 : 9 - (i + 1) = e := by omega
   have e7 : IntKind.wrap .i64 (7 * (i : Int)) = ((7 * i : Nat) : Int) := by rw [Gx.w64 _ (by omega)]; omega
   have ewc : IntKind.wrap .i64 (c.toNat : Int) = (c.toNat : Int) := Gx.w64 _ (by omega)
   have hpi : 2 ^ (7 * i) ≤ 2 ^ 56 := Nat.pow_le_pow_right (by decide) (by omega)
   rw [p128] at hn
   have hm : (c.toNat % 128) * 2 ^ (7 * i) ≤ 127 * 2 ^ 56 := Nat.mul_le_mul (by omega) hpi
   have h56 : (2 : Nat) ^ 56 = 72057594037927936 := by decide
   have hsum : n + c.toNat % 128 * 2 ^ (7 * i) < 128 ^ (i + 1) := by
    rw [p128, show 7 * (i + 1) = 7 + 7 * i by omega, Nat.pow_add]
    have : c.toNat % 128 + 1 ≤ 2 ^ 7 := by omega
    have := Nat.mul_le_mul_right (2 ^ (7 * i)) this
    rw [Nat.add_mul] at this
    omega
   have et : Go.bits .or .i64 (n : Int) (IntKind.wrap .i64 ((Go.bits .andNot .i64 (IntKind.wrap .i64 (c.toNat : Int)) 128) * 2 ^ (min (IntKind.wrap .i64 (7 * (i : Int))).toNat (IntKind.bits .i64)))) = ((n + c.toNat % 128 * 2 ^ (7 * i) : Nat) : Int) := by
    rw [ewc, zSz_ ⟨c.toNat, hcl⟩, e7, Int.toNat_natCast, show min (7 * i) (IntKind.bits .i64) = 7 * i from Nat.min_eq_left (by show 7 * i ≤ 64; omega)]
    have e2 : (((c.toNat % 128 : Nat) : Int) * 2 ^ (7 * i)) = ((c.toNat % 128 * 2 ^ (7 * i) : Nat) : Int) := by rw [Int.natCast_mul, Int.natCast_pow]; rfl
    show Go.bits .or .i64 (n : Int) (IntKind.wrap .i64 (((c.toNat % 128 : Nat) : Int) * 2 ^ (7 * i))) = _
    rw [e2, Gx.w64 _ (by omega), zDD_ hn (by omega)]
   rw [if_pos (by simp; omega)]
   rw [show Gx.idxS s (i : Int) = some (c.toNat : Int) from zof_ hc]
   simp only [Option.bind_some]
   rw [if_pos (by rw [e7]; omega), et, ewc, he, zKd_ hc]
   by_cases c1 : 128 ≤ c.toNat
   ·rw [if_pos (by simp; omega), Gx.w1 (by omega)]
    obtain ⟨r, g1, g2⟩ := ih (i + 1) (n + c.toNat % 128 * 2 ^ (7 * i)) (by omega) hsum
    refine ⟨r, g1, ?_⟩
    rw [he2] at g2
    have eq : lebQ (e + 1) (decide (i = 0)) (c :: (bl s).drop (i + 1)) = (lebQ e false ((bl s).drop (i + 1))).map fun p => (c.toNat - 128 + 128 * p.1, p.2) := by
     conv => lhs; unfold lebQ
     rw [if_pos c1]
    rw [show decide (i + 1 = 0) = false by simp] at g2
    rw [eq]
    cases hq : lebQ e false ((bl s).drop (i + 1)) with
    | none => rw [hq] at g2; exact g2
    | some p =>
     obtain ⟨v, m⟩ := p
     rw [hq] at g2
     obtain ⟨lg, k1, k2, k3⟩ := g2
     refine ⟨lg, k1, ?_, k3⟩
     rw [k2]
     have : n + c.toNat % 128 * 2 ^ (7 * i) + v * 128 ^ (i + 1) = n + (c.toNat - 128 + 128 * v) * 128 ^ i := by
      rw [← p128, show c.toNat % 128 = c.toNat - 128 by omega, Nat.pow_succ, Nat.add_mul]
      have : v * (128 ^ i * 128) = 128 * v * 128 ^ i := by rw [← Nat.mul_assoc, Nat.mul_comm _ 128, ← Nat.mul_assoc]
      omega
     rw [this]
   ·rw [if_neg (by simp; omega)]
    have e8 : c.toNat % 128 = c.toNat := Nat.mod_eq_of_lt (by omega)
    have eq : lebQ (e + 1) (decide (i = 0)) (c :: (bl s).drop (i + 1)) = if c.toNat = 0 ∧ decide (i = 0) = false then none else some (c.toNat, (bl s).drop (i + 1)) := by
     conv => lhs; unfold lebQ
     rw [if_neg c1]
    rw [eq, e8]
    by_cases c2 : c.toNat = 0
    ·by_cases c3 : i = 0
     ·rw [if_neg (fun q => by simp [c3] at q)]
      refine ⟨(((n + c.toNat * 2 ^ (7 * i) : Nat) : Int), ((i + 1 : Nat) : Int), 0), ?_, i + 1, by omega, by rw [p128], rfl⟩
      show (if ((c.toNat : Int) == 0) = true then _ else _) = _
      rw [if_pos (by simp [c2])]
      show (if decide ((i : Int) > 0) = true then _ else _) = _
      rw [if_neg (by simp [c3]), Gx.w1 (by omega)]
     ·rw [if_pos ⟨c2, by simp [c3]⟩]
      refine ⟨(0, 0, 3), ?_, by simp⟩
      show (if ((c.toNat : Int) == 0) = true then _ else _) = _
      rw [if_pos (by simp [c2])]
      show (if decide ((i : Int) > 0) = true then _ else _) = _
      rw [if_pos (by simp; omega)]
    ·rw [if_neg (fun q => c2 q.1)]
     refine ⟨(((n + c.toNat * 2 ^ (7 * i) : Nat) : Int), ((i + 1 : Nat) : Int), 0), ?_, i + 1, by omega, by rw [p128], rfl⟩
     show (if ((c.toNat : Int) == 0) = true then _ else _) = _
     rw [if_neg (by simp; omega)]
     show (if false = true then _ else _) = _
     rw [if_neg (by decide), Gx.w1 (by omega)]
 obtain ⟨r, g1, g2⟩ := loop Y 0 0 (by omega) (by decide)
 refine ⟨r, g1, ?_⟩
 rw [List.drop_zero] at g2
 simpa using g2
theorem zzf_ (D : za_) (e : Int) {s : ByteArray} {e0 : Int} (g : H.get rb = some (.cells [.string s, .int .i64 e0] 154 true 0)) :
  Gx.Wp (zob_ k D (some ⟨rb, 0, none⟩) e H) fun z => z.2.get rb = some (.cells [.string s, .int .i64 (if e0 = 0 then e else e0)] 154 true 0) ∧ Chg (· = rb) H z.2 := by
 simp only [zob_]
 refine .bnd rfl (.bnd (zp_ (o := 0 + 1) g rfl) ?_)
 by_cases c : e0 = 0
 ·refine .ifp (by simp [c]) (.bnd rfl (.bnd (zpc_ (o := 0 + 1) g (by simp) rfl) (.of ⟨?_, Chg.set (.inr rfl)⟩)))
  rw [zmb_, if_pos c]; rfl
 ·refine .ifn (by simp [c]) (.of ⟨by rw [if_neg c]; exact g, .refl _ _⟩)
theorem zIc_ (D : za_) (hk : 20 ≤ k) (P : PRd H rb st) (most : Nat) :
  Gx.Wp (zV_ k D (some ⟨rb, 0, none⟩) (most : Int) H) fun z => z.1 = ((opS most st).1 : Int) ∧ PRd z.2 rb (opS most st).2 ∧ Chg (· = rb) H z.2 := by
 simp only [zV_]
 obtain ⟨s, e, g, hsz, he, hl⟩ := P
 obtain ⟨r, r1, r2⟩ := zmw_ D hk s H
 refine .bnd rfl (.bnd (show ldS ⟨rb, 0 + 0, none⟩ H = some s by simp [ldS, AHeap.rd1, g, decS]) (.bnd r1 (Gx.Wp.jn fun j9 h9 => Gx.Wp.jn fun j24 h24 => ?_)))
 have bad : ∀ (n lg e2 : Int), (e2 ≠ 0 ∨ e ≠ 0) → (opS most st) = (0, none) → Gx.Wp (j9 (some ⟨rb, 0, none⟩) n lg e2 H) fun z => z.1 = ((opS most st).1 : Int) ∧ PRd z.2 rb (opS most st).2 ∧ Chg (· = rb) H z.2 := fun n lg e2 hne ho => by
  rw [h9, ho]
  refine .call (zzf_ D e2 g) fun z ⟨z1, z2⟩ => .bnd rfl (.bnd (zp_ (o := 0 + 1) z1 rfl) ?_)
  have hne2 : (if e = 0 then e2 else e) ≠ 0 := by
   by_cases c : e = 0
   ·rw [if_pos c]; exact hne.resolve_right (fun q => q c)
   ·rw [if_neg c]; exact c
  exact .ifp (by simpa using hne2) (.of ⟨rfl, PRd.bad z1 hsz hne2, z2⟩)
 cases st with
 | none =>
  have hne : e ≠ 0 := fun q => by simpa using he.1 q
  have ho : opS most none = (0, none) := rfl
  by_cases c : r.2.2 = 0
  ·refine .ifp (by simpa using c) ?_
   rw [h24]
   by_cases c2 : r.1 > (most : Int)
   ·exact .ifp (by simpa using c2) (bad _ _ _ (.inr hne) ho)
   ·exact .ifn (by simpa using c2) (bad _ _ _ (.inr hne) ho)
  ·refine .ifn (by simpa using c) ?_
   rw [h24]
   exact .ifn (by decide) (bad _ _ _ (.inr hne) ho)
 | some l =>
  have e0 : e = 0 := he.2 rfl
  have es : s = bA l := hl l rfl
  have ebl : bl s = l := by rw [es]; rfl
  rw [ebl] at r2
  cases hq : lebQ 9 true l with
  | none =>
   rw [hq] at r2
   have ho : opS most (some l) = (0, none) := by simp [opS, pS, hq]
   refine .ifn (by simpa using r2) ?_
   rw [h24]
   exact .ifn (by decide) (bad _ _ _ (.inl r2) ho)
  | some p =>
   obtain ⟨n, m⟩ := p
   rw [hq] at r2
   obtain ⟨lg, q1, q2, q3⟩ := r2
   rw [q2]
   refine .ifp rfl ?_
   rw [h24]
   by_cases c2 : most < n
   ·have ho : opS most (some l) = (0, none) := by simp [opS, pS, hq, c2]
    exact .ifp (by simp; omega) (bad _ _ _ (.inl (by decide)) ho)
   ·have ho : opS most (some l) = (n, some m) := by simp [opS, pS, hq, c2]
    refine .ifn (by simp; omega) ?_
    rw [h9, ho]
    refine .call (zzf_ D 0 g) fun z ⟨z1, z2⟩ => .bnd rfl (.bnd (zp_ (o := 0 + 1) z1 rfl) (.ifn (by simp [e0]) (.bnd rfl (.bnd (show ldS ⟨rb, 0 + 0, none⟩ z.2 = some s by simp [ldS, AHeap.rd1, z1, decS]) ?_))))
    have esub : Gx.subS s (some (lg : Int)) none = some (bA m) := by
     have := zFb_ (s := s) (lo := some (lg : Int)) (hi := none) (i := lg) (j := s.size) rfl rfl q1 (Nat.le_refl _)
     rw [this, ebl, q3, List.take_of_length_le (by rw [← ebl]; exact Nat.le_refl _)]
     rfl
    refine .bnd esub (.bnd rfl (.bnd (zpc_ (o := 0 + 0) z1 (by simp) rfl) (.of ⟨rfl, PRd.ok ?_ ?_, Chg.trans z2 (Chg.set (.inr rfl))⟩)))
    ·rw [zmb_, e0]; rfl
    ·have : m.length ≤ s.size := by rw [q3, List.length_drop, ← ebl]; exact Nat.sub_le _ _
     omega
theorem zhh_ (D : za_) {s : ByteArray} {e : Int} (g : H.get rb = some (.cells [.string s, .int .i64 e] 154 true 0)) : zcc_ k D (some ⟨rb, 0, none⟩) H = some ((s.size : Int), H) := by
 simp only [zcc_]
 exact bnd rfl (bnd (show ldS ⟨rb, 0 + 0, none⟩ H = some s by simp [ldS, AHeap.rd1, g, decS]) rfl)
theorem zJj_ (D : za_) {s : ByteArray} {e : Int} (g : H.get rb = some (.cells [.string s, .int .i64 e] 154 true 0)) : zVb_ k D (some ⟨rb, 0, none⟩) H = some (e, H) := by
 simp only [zVb_]
 exact bnd rfl (bnd (zp_ (o := 0 + 1) g rfl) rfl)
theorem zle_ (D : za_) (P : PRd H rb st) (n : Nat) :
  Gx.Wp (zjb_ k D (some ⟨rb, 0, none⟩) (n : Int) H) fun z => z.1 = (opB n st).1 ∧ PRd z.2 rb (opB n st).2 ∧ Chg (· = rb) H z.2 := by
 obtain ⟨s, e, g, hsz, he, hl⟩ := P
 simp only [zjb_]
 refine Gx.Wp.jn fun j4 h4 => .ifn (by simp) (.bnd (zhh_ D g) ?_)
 have lds : ∀ {H : AHeap} {s : ByteArray} {e : Int}, H.get rb = some (.cells [.string s, .int .i64 e] 154 true 0) → ldS ⟨rb, 0 + 0, none⟩ H = some s := fun g => by simp [ldS, AHeap.rd1, g, decS]
 by_cases c : s.size < n
 ·have ho : opB n st = (⟨#[]⟩, none) := by
   cases st with
   | none => rfl
   | some l =>
    have es : s = bA l := hl l rfl
    have : ¬ n ≤ l.length := by rw [es, zWc_] at c; omega
    simp [opB, this]
  rw [ho]
  refine .ifp (by simp; omega) (.call (zzf_ D 10 g) fun z ⟨z1, z2⟩ => ?_)
  rw [h4]
  have hne2 : (if e = 0 then (10 : Int) else e) ≠ 0 := by
   by_cases c : e = 0
   ·rw [if_pos c]; decide
   ·rw [if_neg c]; exact c
  exact .bnd rfl (.bnd (zp_ (o := 0 + 1) z1 rfl) (.ifp (by simpa using hne2) (.of ⟨rfl, PRd.bad z1 hsz hne2, z2⟩)))
 ·refine .ifn (by simp; omega) ?_
  rw [h4]
  refine .bnd rfl (.bnd (zp_ (o := 0 + 1) g rfl) ?_)
  cases st with
  | none =>
   have hne : e ≠ 0 := fun q => by simpa using he.1 q
   exact .ifp (by simpa using hne) (.of ⟨rfl, PRd.bad g hsz hne, .refl _ _⟩)
  | some l =>
   have e0 : e = 0 := he.2 rfl
   have es : s = bA l := hl l rfl
   have ebl : bl s = l := by rw [es]; rfl
   have hle : n ≤ l.length := by rw [es, zWc_] at c; omega
   have hll : l.length = s.size := by rw [es, zWc_]
   rw [zGj_ hle]
   have s1 := zFb_ (s := s) (lo := none) (hi := some (n : Int)) (i := 0) (j := n) rfl rfl (Nat.zero_le _) (by omega)
   have s2 := zFb_ (s := s) (lo := some (n : Int)) (hi := none) (i := n) (j := s.size) rfl rfl (by omega) (Nat.le_refl _)
   rw [ebl, List.drop_zero] at s1
   rw [ebl, List.take_of_length_le (by omega)] at s2
   refine .ifn (by simp [e0]) (.bnd rfl (.bnd (lds g) (.bnd s1 (.bnd rfl (.bnd (lds g) (.bnd s2 (.bnd rfl (.bnd (zpc_ (o := 0 + 0) g (by simp) rfl) (.of ⟨rfl, PRd.ok ?_ ?_, Chg.set (.inr rfl)⟩)))))))))
   ·rw [zmb_, e0]; rfl
   ·rw [List.length_drop]; omega
theorem rfixed_spec (D : za_) (hk : 20 ≤ k) (hr : rb < H.next) (P : PRd H rb st) :
  Gx.Wp (zub_ k D (some ⟨rb, 0, none⟩) 1 H) fun z => z.1 = ((opF st).1 : Int) ∧ PRd z.2 rb (opF st).2 ∧ Chg (· = rb) H z.2 := by
 simp only [zub_]
 refine Gx.Wp.jn fun j4 h4 => Gx.Wp.jn fun j23 h23 => .ifn (by decide) ?_
 rw [h23]
 refine .ifn (by decide) ?_
 rw [h4]
 refine Gx.Wp.jn fun j7 h7 => .call (zle_ D P 1) fun r ⟨q1, q2, q3⟩ => ?_
 have nx := q3.nx
 rw [q1]
 obtain ⟨x, hx⟩ : ∃ x, x = (opB 1 st).1 := ⟨_, rfl⟩
 rw [← hx]
 obtain ⟨h9, e9⟩ : ∃ h9, h9 = AHeap.new r.2 (.cells (zM_ x) 5 true 18446744073709551616) := ⟨_, rfl⟩
 rw [← e9]
 have k9 : zc_ r.2 h9 := by rw [e9]; exact zc_.new _ _
 have g9 : h9.get r.2.next = some (.cells (zM_ x) 5 true 18446744073709551616) := by rw [e9]; simp
 have P9 := q2.keeps (by omega) k9
 have c9 : Chg (· = rb) H h9 := Chg.trans q3 (Chg.keeps k9)
 unfold zsf_
 have ho : (x = ⟨#[]⟩ ∧ opF st = (0, none) ∧ (opB 1 st).2 = none) ∨ ∃ c l, x = bA [c] ∧ opF st = (c.toNat, some l) ∧ (opB 1 st).2 = some l := by
  cases st with
  | none => exact .inl ⟨by rw [hx]; rfl, rfl, rfl⟩
  | some l =>
   cases l with
   | nil => exact .inl ⟨by rw [hx]; simp [opB], rfl, by simp [opB]⟩
   | cons c l => exact .inr ⟨c, l, by rw [hx, zGj_ (by simp)]; rfl, rfl, by rw [zGj_ (by simp)]; rfl⟩
 rcases ho with ⟨e1, e2, e3⟩ | ⟨c, l, e1, e2, e3⟩
 ·rw [e2, ← e3]
  obtain ⟨bot, eb⟩ := zq_ (fun _ _ _ _ _ => none) (zP_ k D j7) (show 0 + 1 ≤ k by omega)
  rw [eb, zg_]; simp only [zP_]
  refine .ifn (by rw [e1]; decide) ?_
  rw [h7]
  exact .of ⟨rfl, P9, c9⟩
 ·rw [e2, ← e3]
  obtain ⟨bot, eb⟩ := zq_ (fun _ _ _ _ _ => none) (zP_ k D j7) (show 1 + 1 ≤ k by omega)
  have esz : x.size = 1 := by rw [e1]; rfl
  have hc := c.toNat_lt
  rw [eb, zg_]; simp only [zP_]
  rw [esz]
  have ei : Gx.idxL 1 ⟨some ⟨r.2.next, 0, some 2⟩, 1, 1⟩ 0 = some ⟨r.2.next, 0, none⟩ := rfl
  have g9' : h9.get r.2.next = some (.cells [.int .u8 (c.toNat : Int)] 5 true 18446744073709551616) := by rw [g9, e1]; rfl
  refine .ifp (by decide) (.bnd ei (.bnd (zp_ g9' rfl) ?_))
  have eo : Go.bits .or .i64 (IntKind.wrap .i64 (0 * 256)) (IntKind.wrap .i64 (c.toNat : Int)) = (c.toNat : Int) := by
   rw [Gx.w64 (0 * 256) (by decide), Gx.w64 _ (by omega)]
   have hw : ∀ z : Int, 0 ≤ z → z < 2 ^ 63 → IntKind.wrap .i64 z = z := fun z h0 h1 => Gx.w64 z (by omega)
   have := (bits_nat .i64 63 (by decide) hw 0 c.toNat (by decide) (by omega)).2
   simpa using this
  rw [eo, show IntKind.wrap .i64 (0 + 1) = 1 from rfl, zg_]
  simp only [zP_]
  refine .ifn (by decide) ?_
  rw [h7]
  exact .of ⟨rfl, P9, c9⟩
theorem zKs_ (D : za_) (P : PRd H rb st) : Gx.Wp (zAe_ k D (some ⟨rb, 0, none⟩) H) fun z => (z.1 = 0 ↔ st = some []) ∧ Chg (· = rb) H z.2 := by
 obtain ⟨s, e, g, hsz, he, hl⟩ := P
 simp only [zAe_]
 refine Gx.Wp.jn fun j3 h3 => .bnd (zhh_ D g) ?_
 by_cases c : 0 < s.size
 ·refine .ifp (by simpa using c) (.call (zzf_ D 3 g) fun z ⟨z1, z2⟩ => ?_)
  rw [h3]
  refine .bnd rfl (.bnd (zp_ (o := 0 + 1) z1 rfl) (.of ⟨⟨fun q => ?_, fun q => ?_⟩, z2⟩))
  ·dsimp only at q
   by_cases c : e = 0
   ·rw [if_pos c] at q; cases q
   ·rw [if_neg c] at q; exact absurd q c
  ·have := hl [] q
   rw [this] at c; exact absurd c (by decide)
 ·refine .ifn (by simpa using c) ?_
  rw [h3]
  refine .bnd rfl (.bnd (zp_ (o := 0 + 1) g rfl) (.of ⟨⟨fun q => ?_, fun q => ?_⟩, .refl _ _⟩))
  ·cases st with
   | none => simpa using he.1 q
   | some l =>
    have es := hl l rfl
    rw [es, zWc_] at c
    have : l = [] := List.length_eq_zero_iff.1 (by omega)
    rw [this]
  ·exact he.2 (by rw [q]; rfl)
end
section
variable {k rb : Nat} {h H H' : AHeap} {st : Rd}
theorem chgB {rb b : Nat} {h H H' : AHeap} (a : Chg (· = rb) h H) (c : Chg (· = b) H H') (hb : h.next ≤ b) : Chg (· = rb) h H' := Chg.beh a c fun y hy e => by omega
theorem zBw_ (D : za_) (hk : 20 ≤ k) (hr : rb < h.next) (P : PRd h rb st) : Gx.Wp (zfj_ k D (some ⟨rb, 0, none⟩) h) fun z => z.1 = (opI st).1 ∧ PRd z.2 rb (opI st).2 ∧ Chg (· = rb) h z.2 := by
 simp only [zfj_]
 obtain ⟨a, sa, ea⟩ : ∃ a sa, opB 32 st = (a, sa) := ⟨_, _, rfl⟩
 obtain ⟨b, sb, eb⟩ : ∃ b sb, opB 32 sa = (b, sb) := ⟨_, _, rfl⟩
 obtain ⟨c, sc, ec⟩ : ∃ c sc, opF sb = (c, sc) := ⟨_, _, rfl⟩
 obtain ⟨d, sd, ed⟩ : ∃ d sd, opS 65536 sc = (d, sd) := ⟨_, _, rfl⟩
 obtain ⟨e, se, ee⟩ : ∃ e se, opS 65536 sd = (e, se) := ⟨_, _, rfl⟩
 obtain ⟨f, sf, ef⟩ : ∃ f sf, opS 65536 se = (f, sf) := ⟨_, _, rfl⟩
 have eI : opI st = ((a, b, (c : Int), (d : Int), (e : Int), (f : Int)), sf) := by
  unfold opI
  simp only [ea, eb, ec, ed, ee, ef]
 rw [eI]
 refine Wp.newE fun h1 e1 k1 n1 g1 => .call (zle_ D (P.keeps hr k1) 32) fun r2 ⟨q2, P2, c2⟩ => ?_
 rw [ea] at q2 P2
 rw [q2]
 have n2 := c2.nx
 have c02 : Chg (· = rb) h r2.2 := Chg.trans (Chg.keeps k1) c2
 have g2 := c2.got (by omega) (by omega) g1
 refine Wp.newE fun h3 e3 k3 n3 g3 => Wp.stL g3 rfl rfl rfl (by decide) fun h4 c4 n4 g4 => ?_
 have k4 : zc_ r2.2 h4 := k3.keepsS c4 fun y hy => by subst hy; omega
 have P4 := P2.keeps (by omega) k4
 have c04 : Chg (· = rb) h h4 := Chg.trans c02 (Chg.keeps k4)
 have g24 := k4.got (by omega) g2
 refine .call (zle_ D P4 32) fun r5 ⟨q5, P5, c5⟩ => ?_
 rw [eb] at q5 P5
 rw [q5]
 have n5 := c5.nx
 have gx5 := c5.got (by omega) (by omega) g4
 have g25 := c5.got (by omega) (by omega) g24
 have c05 : Chg (· = rb) h r5.2 := Chg.trans c04 c5
 refine Wp.st gx5 (by simp) rfl fun h6 c6 n6 g6 => ?_
 have P6 := P5.chg (by omega) c6 (by omega)
 have g26 := c6.got (by omega) (by omega) g25
 have c06 := chgB c05 c6 (by omega)
 refine .call (rfixed_spec D hk (by omega) P6) fun r7 ⟨q7, P7, c7⟩ => ?_
 rw [ec] at q7 P7
 rw [q7]
 have n7 := c7.nx
 have gx7 := c7.got (by omega) (by omega) g6
 have g27 := c7.got (by omega) (by omega) g26
 have c07 : Chg (· = rb) h r7.2 := Chg.trans c06 c7
 refine Wp.st gx7 (by simp) rfl fun h8 c8 n8 g8 => ?_
 have P8 := P7.chg (by omega) c8 (by omega)
 have g28 := c8.got (by omega) (by omega) g27
 have c08 := chgB c07 c8 (by omega)
 refine .call (zIc_ D hk P8 65536) fun r9 ⟨q9, P9, c9⟩ => ?_
 rw [ed] at q9 P9
 rw [q9]
 have n9 := c9.nx
 have gx9 := c9.got (by omega) (by omega) g8
 have g29 := c9.got (by omega) (by omega) g28
 have c09 : Chg (· = rb) h r9.2 := Chg.trans c08 c9
 refine Wp.st gx9 (by simp) rfl fun h10 c10 n10 g10 => ?_
 have P10 := P9.chg (by omega) c10 (by omega)
 have g210 := c10.got (by omega) (by omega) g29
 have c010 := chgB c09 c10 (by omega)
 refine .call (zIc_ D hk P10 65536) fun r11 ⟨q11, P11, c11⟩ => ?_
 rw [ee] at q11 P11
 rw [q11]
 have n11 := c11.nx
 have gx11 := c11.got (by omega) (by omega) g10
 have g211 := c11.got (by omega) (by omega) g210
 have c011 : Chg (· = rb) h r11.2 := Chg.trans c010 c11
 refine Wp.st gx11 (by simp) rfl fun h12 c12 n12 g12 => ?_
 have P12 := P11.chg (by omega) c12 (by omega)
 have g212 := c12.got (by omega) (by omega) g211
 have c012 := chgB c011 c12 (by omega)
 refine .call (zIc_ D hk P12 65536) fun r13 ⟨q13, P13, c13⟩ => ?_
 rw [ef] at q13 P13
 rw [q13]
 have n13 := c13.nx
 have gx13 := c13.got (by omega) (by omega) g12
 have g213 := c13.got (by omega) (by omega) g212
 have c013 : Chg (· = rb) h r13.2 := Chg.trans c012 c13
 refine Wp.st gx13 (by simp) rfl fun h14 c14 n14 g14 => ?_
 have P14 := P13.chg (by omega) c14 (by omega)
 have g214 := c14.got (by omega) (by omega) g213
 have c014 := chgB c013 c14 (by omega)
 have gz : h14.get r2.2.next = some (.cells (itC (a, b, (c : Int), (d : Int), (e : Int), (f : Int))) 57 true 0) := g14
 refine .bnd (zA_ gz rfl) (.bnd (zvb_ _) (Wp.stL g214 rfl rfl rfl (by decide) fun h17 c17 n17 g17 => .bnd (zA_ (c := itC (a, b, (c : Int), (d : Int), (e : Int), (f : Int))) g17 rfl) (.bnd (zvb_ _) (.of ⟨rfl, P14.chg (by omega) c17 (by omega), chgB c014 c17 (by omega)⟩))))
theorem zMB_ {R : Type} {Q : R → Prop} (P : PRd h rb st) {κ : Value → AHeap → Option R} {C : za_} (hC : C R 69 = DD k R 69) (kt : ∀ h', PRd h' rb (opB 32 st).2 → Chg (· = rb) h h' → Gx.Wp (κ (.string (opB 32 st).1) h') Q) :
  Gx.Wp (zVc_ C (.func (.func 69) ⟨[]⟩ ⟨[]⟩) [.pointer (some ⟨rb, 0, none⟩)] h κ) Q := by
 have e : zVc_ C (.func (.func 69) ⟨[]⟩ ⟨[]⟩) [.pointer (some ⟨rb, 0, none⟩)] h κ = C R 69 [.pointer (some ⟨rb, 0, none⟩)] h κ := rfl
 rw [e, hC]
 show Gx.Wp ((zVh_ k noC (some ⟨rb, 0, none⟩) h).bind fun r => κ (.string r.1) r.2) Q
 simp only [zVh_]
 refine .call (P := fun r => r.1 = (opB 32 st).1 ∧ PRd r.2 rb (opB 32 st).2 ∧ Chg (· = rb) h r.2) (.call (zle_ noC P 32) fun r q => .of q) fun r ⟨q1, q2, q3⟩ => ?_
 rw [q1]; exact kt r.2 q2 q3
theorem zQC_ {R : Type} {Q : R → Prop} (hk : 20 ≤ k) (hr : rb < h.next) (P : PRd h rb st) {κ : Value → AHeap → Option R} {C : za_} (hC : C R 72 = DD k R 72) (kt : ∀ h', PRd h' rb (opI st).2 → Chg (· = rb) h h' → Gx.Wp (κ (.agg ⟨itC (opI st).1⟩) h') Q) :
  Gx.Wp (zVc_ C (.func (.func 72) ⟨[]⟩ ⟨[]⟩) [.pointer (some ⟨rb, 0, none⟩)] h κ) Q := by
 have e : zVc_ C (.func (.func 72) ⟨[]⟩ ⟨[]⟩) [.pointer (some ⟨rb, 0, none⟩)] h κ = C R 72 [.pointer (some ⟨rb, 0, none⟩)] h κ := rfl
 rw [e, hC]
 show Gx.Wp ((zfj_ k noC (some ⟨rb, 0, none⟩) h).bind fun r => κ (.agg ⟨itC r.1⟩) r.2) Q
 refine .call (zBw_ noC hk hr P) fun r ⟨q1, q2, q3⟩ => ?_
 rw [q1]; exact kt r.2 q2 q3
theorem ziy_ (hk : 5000 ≤ k) (hr : rb < h.next) (P : PRd h rb st) :
  Gx.Wp (zte_ k (DD k) (some ⟨rb, 0, none⟩) (.func (.func 69) ⟨[]⟩ ⟨[]⟩) h) fun z => PRd z.2 rb (runL (opB 32) (opS 4096 st).1 (opS 4096 st).2).2 ∧ ((runL (opB 32) (opS 4096 st).1 (opS 4096 st).2).2 ≠ none → Acc encS 9 h.next z.2 z.1 (runL (opB 32) (opS 4096 st).1 (opS 4096 st).2).1) ∧ Chg (· = rb) h z.2 := by
 simp only [zte_]
 refine Gx.Wp.jn fun j3 h3 => .call (zIc_ (DD k) (by omega) P 4096) fun r4 ⟨q4, P4, c4⟩ => ?_
 obtain ⟨n, st1, e1⟩ : ∃ n s, opS 4096 st = (n, s) := ⟨_, _, rfl⟩
 rw [e1] at q4 P4 ⊢
 dsimp only at q4 P4 ⊢
 rw [q4]
 have hn : n ≤ 4096 := by
  have : n = (opS 4096 st).1 := by rw [e1]
  rw [this]
  cases hs : (opS 4096 st).2 with
  | none => 
   have : opS 4096 st = (0, none) := by
    unfold opS at hs ⊢
    cases e : st.bind (pS 4096) with
    | none => rfl
    | some p => rw [e] at hs; cases hs
   rw [this]; decide
  | some l => exact (zXh_ hs).2
 have n4 := c4.nx
 unfold zyh_
 cases st1 with
 | none =>
  have hz : n = 0 := by
   have : opS 4096 st = (n, none) := e1
   unfold opS at this
   cases e : st.bind (pS 4096) with
   | none => rw [e] at this; cases this; rfl
   | some p => rw [e] at this; cases this
  subst hz
  obtain ⟨bot, eb⟩ := zq_ (fun _ _ _ _ _ _ => none) (zlb_ k (DD k) j3) (show 0 + 1 ≤ k by omega)
  rw [eb, zg_]; simp only [zlb_]
  refine .ifn (by decide) ?_
  rw [h3]
  exact .of ⟨P4, fun q => absurd rfl q, c4⟩
 | some l =>
  obtain ⟨bot, eb⟩ := zq_ (fun _ _ _ _ _ _ => none) (zlb_ k (DD k) j3) (show n + 1 ≤ k by omega)
  rw [eb]
  have loop : ∀ (d i : Nat) (o : Slc) (H : AHeap) (xs : List ByteArray) (l : List UInt8), i + d = n → xs.length = i → PRd H rb (some l) → Chg (· = rb) h H → Acc encS 9 h.next H o xs → Gx.Wp (zi_ bot (d + 1) (zlb_ k (DD k) j3) (some ⟨rb, 0, none⟩) (.func (.func 69) ⟨[]⟩ ⟨[]⟩) o (n : Int) (i : Int) H) fun z => PRd z.2 rb (runL (opB 32) d (some l)).2 ∧ ((runL (opB 32) d (some l)).2 ≠ none → Acc encS 9 h.next z.2 z.1 (xs ++ (runL (opB 32) d (some l)).1)) ∧ Chg (· = rb) h z.2 := fun d => by
   induction d with
   | zero =>
    intro i o H xs l hd hx P c A
    rw [zg_]; simp only [zlb_]
    refine .ifn (by simp; omega) ?_
    rw [h3]
    refine .of ⟨P, fun _ => ?_, c⟩
    show Acc encS 9 h.next H o (xs ++ [])
    rw [List.append_nil]; exact A
   | succ d ih =>
    intro i o H xs l hd hx P c A
    rw [zg_]; simp only [zlb_]
    have nx := c.nx
    refine .ifp (by simp; omega) (zMB_ (k := k) P rfl fun h' P' c' => .bnd rfl ?_)
    obtain ⟨x, s2, e2⟩ : ∃ x s2, opB 32 (some l) = (x, s2) := ⟨_, _, rfl⟩
    rw [e2] at P' ⊢
    dsimp only at P' ⊢
    obtain ⟨s, e, g, hsz, he, hl⟩ := P'
    have nx' := c'.nx
    refine .bnd (zJj_ (DD k) g) ?_
    have A' := A.chg c' fun a ha q => by have := (A.lt a ha).2; omega
    have c2 : Chg (· = rb) h h' := Chg.trans c c'
    cases s2 with
    | none =>
     have hne : e ≠ 0 := fun q => by simpa using he.1 q
     rw [zhm_ e2]
     exact .ifp (by simpa using hne) (.of ⟨PRd.bad g hsz hne, fun q => absurd rfl q, c2⟩)
    | some m =>
     have e0 : e = 0 := he.2 rfl
     have es : s = bA m := hl m rfl
     rw [zgm_ e2]
     refine .ifn (by simp [e0]) (Wp.newE fun h3 e3 k3 n3 g3 => ?_)
     obtain ⟨s', h9, a1, a2, A9, c9, d9⟩ := Acc.pushK A' (fun _ => rfl) x (bytes := 16) e3 (by omega) (by decide) (by omega)
     refine .bnd a1 (.bnd a2 ?_)
     rw [Gx.w1 (by omega)]
     have hc9 : ∀ y, ofS o y → h.next ≤ y := fun y ⟨a, ha, e⟩ => by rw [e]; exact (A'.lt a ha).2
     have g' : h9.get rb = some (.cells [.string (bA m), .int .i64 0] 154 true 0) := by
      have := c9.got (by omega) (fun q => by have := hc9 _ q; omega) g
      rw [this, es, e0]
     have := ih (i + 1) s' h9 (xs ++ [x]) m (by omega) (by simp [hx]) (PRd.ok g' (by rw [← zWc_, ← es]; exact hsz)) (Chg.beh c2 c9 fun y hy q => by have := hc9 y q; omega) A9
     simp only [List.append_assoc, List.singleton_append] at this
     exact this
  have := loop n 0 ⟨none, 0, 0⟩ r4.2 [] l (by omega) rfl P4 c4 (Acc.nil _ _ _ _)
  simpa using this
theorem zky_ (hk : 5000 ≤ k) (hr : rb < h.next) (P : PRd h rb st) :
  Gx.Wp (zNd_ k (DD k) (some ⟨rb, 0, none⟩) (.func (.func 72) ⟨[]⟩ ⟨[]⟩) h) fun z => PRd z.2 rb (runL opI (opS 4096 st).1 (opS 4096 st).2).2 ∧ ((runL opI (opS 4096 st).1 (opS 4096 st).2).2 ≠ none → AccW 6 itC 57 h.next z.2 z.1 (runL opI (opS 4096 st).1 (opS 4096 st).2).1) ∧ Chg (· = rb) h z.2 := by
 simp only [zNd_]
 refine Gx.Wp.jn fun j3 h3 => .call (zIc_ (DD k) (by omega) P 4096) fun r4 ⟨q4, P4, c4⟩ => ?_
 obtain ⟨n, st1, e1⟩ : ∃ n s, opS 4096 st = (n, s) := ⟨_, _, rfl⟩
 rw [e1] at q4 P4 ⊢
 dsimp only at q4 P4 ⊢
 rw [q4]
 have hn : n ≤ 4096 := by
  have : n = (opS 4096 st).1 := by rw [e1]
  rw [this]
  cases hs : (opS 4096 st).2 with
  | none => 
   have : opS 4096 st = (0, none) := by
    unfold opS at hs ⊢
    cases e : st.bind (pS 4096) with
    | none => rfl
    | some p => rw [e] at hs; cases hs
   rw [this]; decide
  | some l => exact (zXh_ hs).2
 have n4 := c4.nx
 unfold zsg_
 cases st1 with
 | none =>
  have hz : n = 0 := by
   have : opS 4096 st = (n, none) := e1
   unfold opS at this
   cases e : st.bind (pS 4096) with
   | none => rw [e] at this; cases this; rfl
   | some p => rw [e] at this; cases this
  subst hz
  obtain ⟨bot, eb⟩ := zq_ (fun _ _ _ _ _ _ => none) (zgb_ k (DD k) j3) (show 0 + 1 ≤ k by omega)
  rw [eb, zg_]; simp only [zgb_]
  refine .ifn (by decide) ?_
  rw [h3]
  exact .of ⟨P4, fun q => absurd rfl q, c4⟩
 | some l =>
  obtain ⟨bot, eb⟩ := zq_ (fun _ _ _ _ _ _ => none) (zgb_ k (DD k) j3) (show n + 1 ≤ k by omega)
  rw [eb]
  have loop : ∀ (d i : Nat) (o : Slc) (H : AHeap) (xs : List It) (l : List UInt8), i + d = n → xs.length = i → PRd H rb (some l) → Chg (· = rb) h H → AccW 6 itC 57 h.next H o xs → Gx.Wp (zi_ bot (d + 1) (zgb_ k (DD k) j3) (some ⟨rb, 0, none⟩) (.func (.func 72) ⟨[]⟩ ⟨[]⟩) o (n : Int) (i : Int) H) fun z => PRd z.2 rb (runL opI d (some l)).2 ∧ ((runL opI d (some l)).2 ≠ none → AccW 6 itC 57 h.next z.2 z.1 (xs ++ (runL opI d (some l)).1)) ∧ Chg (· = rb) h z.2 := fun d => by
   induction d with
   | zero =>
    intro i o H xs l hd hx P c A
    rw [zg_]; simp only [zgb_]
    refine .ifn (by simp; omega) ?_
    rw [h3]
    refine .of ⟨P, fun _ => ?_, c⟩
    show AccW 6 itC 57 h.next H o (xs ++ [])
    rw [List.append_nil]; exact A
   | succ d ih =>
    intro i o H xs l hd hx P c A
    rw [zg_]; simp only [zgb_]
    have nx := c.nx
    refine .ifp (by simp; omega) (zQC_ (k := k) (by omega) (by omega) P rfl fun h' P' c' => ?_)
    obtain ⟨x, s2, e2⟩ : ∃ x s2, opI (some l) = (x, s2) := ⟨_, _, rfl⟩
    rw [e2] at P' ⊢
    dsimp only at P' ⊢
    have nx' := c'.nx
    have A' := A.chg c' fun a ha q => by have := (A.lt a ha).2; omega
    have c2 : Chg (· = rb) h h' := Chg.trans c c'
    refine .bnd (zvb_ x) (Wp.newE fun h16 e16 k16 n16 g16 => Wp.stL g16 rfl rfl rfl (by decide) fun h17 c17 n17 g17 => ?_)
    have k17 : zc_ h' h17 := k16.keepsS c17 fun y hy => by subst hy; omega
    obtain ⟨s, e, g0, hsz, he, hl⟩ := P'
    have g := k17.got (by omega) g0
    have c3 : Chg (· = rb) h h17 := Chg.trans c2 (Chg.keeps k17)
    refine .bnd (zJj_ (DD k) g) ?_
    cases s2 with
    | none =>
     have hne : e ≠ 0 := fun q => by simpa using he.1 q
     rw [zhm_ e2]
     exact .ifp (by simpa using hne) (.of ⟨PRd.bad g hsz hne, fun q => absurd rfl q, c3⟩)
    | some m =>
     have e0 : e = 0 := he.2 rfl
     have es : s = bA m := hl m rfl
     rw [zgm_ e2]
     have gx : h17.get h'.next = some (.cells (itC x) 57 true 0) := g17
     refine .ifn (by simp [e0]) (.bnd (zA_ gx rfl) (.bnd (zvb_ x) (Wp.newE fun h3 e3 k3 n3 g3 => ?_)))
     have eH : h3 = h17.new (.cells (itC x) 57 true 0) := e3
     rw [eH]
     obtain ⟨s', h9, a2, A9, c9, d9⟩ := (A'.keeps k17).push zG_ zep_ x (bytes := 64) (by decide) (by omega) (by omega)
     refine .bnd (zTg_ zG_ x 57) (.bnd a2 ?_)
     rw [Gx.w1 (by omega)]
     have hc9 : ∀ y, ofS o y → h.next ≤ y := fun y ⟨a, ha, e⟩ => by rw [e]; exact (A'.lt a ha).2
     have g' : h9.get rb = some (.cells [.string (bA m), .int .i64 0] 154 true 0) := by
      have := c9.got (by omega) (fun q => by have := hc9 _ q; omega) g
      rw [this, es, e0]
     have := ih (i + 1) s' h9 (xs ++ [x]) m (by omega) (by simp [hx]) (PRd.ok g' (by rw [← zWc_, ← es]; exact hsz)) (Chg.beh c3 c9 fun y hy q => by have := hc9 y q; omega) A9
     simp only [List.append_assoc, List.singleton_append] at this
     exact this
  have := loop n 0 ⟨none, 0, 0⟩ r4.2 [] l (by omega) rfl P4 c4 (AccW.nil _ _ _ _ _)
  simpa using this
end
section
variable {k rb : Nat} {h H H' : AHeap} {st : Rd}
theorem zKB_ (D : za_) (s p : ByteArray) (h : AHeap) : zoe_ k D s p h = some (if (bl s).take p.size = bl p then (bA ((bl s).drop p.size), true) else (s, false), h) := by
 simp only [zoe_, zxc_, zhb_]
 have hs : (bl s).length = s.size := rfl
 have hp : (bl p).length = p.size := rfl
 by_cases c : p.size ≤ s.size
 ·rw [if_pos (by simp; omega)]
  have s1 := zFb_ (s := s) (lo := none) (hi := some (p.size : Int)) (i := 0) (j := p.size) rfl rfl (Nat.zero_le _) c
  have s2 := zFb_ (s := s) (lo := some (p.size : Int)) (hi := none) (i := p.size) (j := s.size) rfl rfl c (Nat.le_refl _)
  rw [List.take_of_length_le (l := bl s) (by omega)] at s2
  rw [List.drop_zero] at s1
  simp only [s1, s2, Option.bind_some, zEj_]
  by_cases c2 : (bl s).take p.size = bl p
  ·have this2 : (⟨⟨bl p⟩⟩ : ByteArray) = p := rfl
   simp [c2, this2]
   rfl
  ·have : ¬ (⟨⟨(bl s).take p.size⟩⟩ : ByteArray) = p := fun e => c2 (congrArg bl e)
   simp [this, c2]
 ·rw [if_neg (by simp; omega)]
  have : ¬ (bl s).take p.size = bl p := fun e => by
   have := congrArg List.length e
   rw [List.length_take] at this; omega
  simp [this]
def noF : (Slc × Slc) × Int := ((⟨none, 0, 0⟩, ⟨none, 0, 0⟩), 160)
theorem ztw_ (hk : 20000 ≤ k) (s : ByteArray) (h : AHeap) : Gx.Wp (zJh_ k (DD k) s h) fun z => (∀ f, decF (bl s) = some f → z.1.2 = 0 ∧ Row encS z.2 z.1.1.1 f.1 ∧ RowW 6 itC z.2 z.1.1.2 f.2 ∧ (∀ a, z.1.1.1.a = some a → h.next ≤ a.block) ∧ ∀ a, z.1.1.2.a = some a → h.next ≤ a.block) ∧ (decF (bl s) = none → z.1 = noF) ∧ zc_ h z.2 := by
 simp only [zJh_]
 have hs : (bl s).length = s.size := rfl
 refine Wp.newE fun h1 e1 k1 n1 g1 => .bnd (zKB_ (DD k) s ⟨#[71, 82, 84, 73, 1]⟩ h1) (Gx.Wp.jn fun j7 h7 => ?_)
 have bad7 : ∀ rest, decF (bl s) = none → Gx.Wp (j7 (some ⟨h.next, 0, none⟩) rest true h1) fun z => (∀ f, decF (bl s) = some f → z.1.2 = 0 ∧ Row encS z.2 z.1.1.1 f.1 ∧ RowW 6 itC z.2 z.1.1.2 f.2 ∧ (∀ a, z.1.1.1.a = some a → h.next ≤ a.block) ∧ ∀ a, z.1.1.2.a = some a → h.next ≤ a.block) ∧ (decF (bl s) = none → z.1 = noF) ∧ zc_ h z.2 := fun rest hd => by
  rw [h7]
  refine .ifp rfl (.bnd rfl (Wp.stL g1 rfl rfl rfl (by decide) fun h9 c9 n9 g9 => .bnd rfl (.bnd (zA_ g9 rfl) (.bnd rfl (.of ⟨fun f hf => (by rw [hd] at hf; cases hf), fun _ => rfl, k1.keepsS c9 fun y hy => by subst hy; omega⟩)))))
 have pre : bl (⟨#[71, 82, 84, 73, 1]⟩ : ByteArray) = zSd_ := rfl
 have psz : (⟨#[71, 82, 84, 73, 1]⟩ : ByteArray).size = 5 := rfl
 rw [pre, psz]
 by_cases c1 : (bl s).take 5 = zSd_
 rotate_left
 ·rw [if_neg c1]
  exact .ifp rfl (bad7 _ (by unfold decF; rw [if_neg (fun q => c1 q.2)]))
 rw [if_pos c1]
 refine .ifn (by simp) ?_
 by_cases c2 : 65536 < s.size
 ·rw [decide_eq_true (by omega)]
  exact bad7 _ (by unfold decF; rw [if_neg (fun q => by omega)])
 rw [decide_eq_false (by omega), h7]
 have hlen : (bl s).length ≤ 65536 := by omega
 refine .ifn (by decide) ?_
 simp only [zDf_]
 refine .bnd rfl ?_
 obtain ⟨h13, e13⟩ : ∃ h13, h13 = AHeap.new h1 (.cells [.string (bA ((bl s).drop 5)), .int .i64 0] 154 true 0) := ⟨_, rfl⟩
 rw [← e13]
 have k13 : zc_ h1 h13 := by rw [e13]; exact zc_.new _ _
 have n13 : h13.next = h1.next + 1 := by rw [e13]; rfl
 have g13 : h13.get h1.next = some (.cells [.string (bA ((bl s).drop 5)), .int .i64 0] 154 true 0) := by rw [e13]; simp
 have P13 : PRd h13 h1.next (some ((bl s).drop 5)) := PRd.ok g13 (by rw [List.length_drop]; omega)
 refine Wp.newE fun h14 e14 k14x n14x g14x => ?_
 have k14 : zc_ h13 h14 := k14x
 have n14 : h14.next = h13.next + 1 := n14x
 have g14 : h14.get h13.next = some (.cells [.slice none 0 0, .slice none 0 0] 38 true 0) := g14x
 obtain ⟨a1, s1, ea1⟩ : ∃ n s1, opS 4096 (some ((bl s).drop 5)) = (n, s1) := ⟨_, _, rfl⟩
 obtain ⟨l1, s2, ea2⟩ : ∃ l s2, runL (opB 32) a1 s1 = (l, s2) := ⟨_, _, rfl⟩
 obtain ⟨a3, s3, ea3⟩ : ∃ n s3, opS 4096 s2 = (n, s3) := ⟨_, _, rfl⟩
 obtain ⟨l2, s4, ea4⟩ : ∃ l s4, runL opI a3 s3 = (l, s4) := ⟨_, _, rfl⟩
 have eF : zNi_ (some ((bl s).drop 5)) = ((l1, l2), s4) := by
  unfold zNi_
  simp only [ea1, ea2, ea3, ea4]
 refine .call (ziy_ (by omega) (by omega) (P13.keeps (by omega) k14)) fun r15 ⟨P15, A15, c15⟩ => ?_
 rw [ea1] at P15 A15
 dsimp only at P15 A15
 rw [ea2] at P15 A15
 dsimp only at P15 A15
 have n15 := c15.nx
 have g15 := c15.got (by omega) (by omega) g14
 refine Wp.st g15 (by simp) rfl fun h16 c16 n16 g16 => ?_
 have P16 := P15.chg (by omega) c16 (by omega)
 refine .call (zky_ (by omega) (by omega) P16) fun r17 ⟨P17, A17, c17⟩ => ?_
 rw [ea3] at P17 A17
 dsimp only at P17 A17
 rw [ea4] at P17 A17
 dsimp only at P17 A17
 have n17 := c17.nx
 have g17 := c17.got (by omega) (by omega) g16
 refine Wp.st g17 (by simp) rfl fun h18 c18 n18 g18 => Gx.Wp.jn fun j23 h23 => ?_
 have P18 := P17.chg (by omega) c18 (by omega)
 refine .call (zKs_ (DD k) P18) fun r37 ⟨q37, c37⟩ => ?_
 have n37 := c37.nx
 have g137 : r37.2.get h.next = some (.cells [.slice none 0 0, .slice none 0 0] 38 true 0) := by
  have a := k13.got (by omega) g1
  have a := k14.got (by omega) a
  have a := c15.got (by omega) (by omega) a
  have a := c16.got (by omega) (by omega) a
  have a := c17.got (by omega) (by omega) a
  have a := c18.got (by omega) (by omega) a
  exact c37.got (by omega) (by omega) a
 have kz : zc_ h r37.2 := by
  have a : zc_ h h14 := (k1.trans k13).trans k14
  have a := a.keepsS c15 fun y hy => by subst hy; omega
  have a := a.keepsS c16 fun y hy => by subst hy; omega
  have a := a.keepsS c17 fun y hy => by subst hy; omega
  have a := a.keepsS c18 fun y hy => by subst hy; omega
  exact a.keepsS c37 fun y hy => by subst hy; omega
 have bad23 : ∀ H f20, decF (bl s) = none → zc_ h H → H.get h.next = some (.cells [.slice none 0 0, .slice none 0 0] 38 true 0) → h.next < H.next → Gx.Wp (j23 (some ⟨h.next, 0, none⟩) f20 true H) fun z => (∀ f, decF (bl s) = some f → z.1.2 = 0 ∧ Row encS z.2 z.1.1.1 f.1 ∧ RowW 6 itC z.2 z.1.1.2 f.2 ∧ (∀ a, z.1.1.1.a = some a → h.next ≤ a.block) ∧ ∀ a, z.1.1.2.a = some a → h.next ≤ a.block) ∧ (decF (bl s) = none → z.1 = noF) ∧ zc_ h z.2 := fun H f20 hd kH gH hl => by
  rw [h23]
  refine .ifp rfl (.bnd rfl (Wp.stL gH rfl rfl rfl (by decide) fun h9 c9 n9 g9 => .bnd rfl (.bnd (zA_ g9 rfl) (.bnd rfl (.of ⟨fun f hf => (by rw [hd] at hf; cases hf), fun _ => rfl, kH.keepsS c9 fun y hy => by subst hy; omega⟩)))))
 by_cases c3 : s4 = some []
 rotate_left
 ·have hne : ¬ r37.1 = 0 := fun q => c3 (q37.1 q)
  refine .ifp (by simpa using hne) (bad23 _ _ ?_ kz g137 (by omega))
  unfold decF
  rw [if_pos ⟨hlen, c1⟩, eF, if_neg (fun q => c3 q.1)]
 ·have h0 : r37.1 = 0 := q37.2 c3
  have s3n : s3 ≠ none := fun q => by
   rw [q] at ea4
   have e0 : a3 = 0 := by
    rw [q] at ea3
    unfold opS at ea3
    cases e : s2.bind (pS 4096) with
    | none => rw [e] at ea3; cases ea3; rfl
    | some p => rw [e] at ea3; cases ea3
   rw [e0] at ea4
   cases ea4
   cases c3
  have s2n : s2 ≠ none := fun q => by
   rw [q] at ea3
   cases ea3
   exact s3n rfl
  have As := A15 s2n
  have Ai := A17 (by rw [c3]; simp)
  have g37 : r37.2.get h13.next = some (.cells [.slice r15.1.a r15.1.len r15.1.cap, .slice r17.1.a r17.1.len r17.1.cap] 38 true 0) := c37.got (by omega) (by omega) g18
  have ks : zc_ h14 r15.2 ∨ True := .inr trivial
  have pa : ∀ a, r15.1.a = some a → a.block < r15.2.next ∧ h14.next ≤ a.block := As.lt
  have pb : ∀ a, r17.1.a = some a → a.block < r17.2.next ∧ h16.next ≤ a.block := Ai.lt
  have R1 : Row encS r37.2 r15.1 l1 := by
   have a := As.row
   have a := a.chg c16 fun x hx q => by have := (pa x hx).2; omega
   have a := a.chg c17 fun x hx q => by have := (pa x hx).2; omega
   have a := a.chg c18 fun x hx q => by have := (pa x hx).2; omega
   exact a.chg c37 fun x hx q => by have := (pa x hx).2; omega
  have R2 : RowW 6 itC r37.2 r17.1 l2 := by
   have a := Ai.row zG_
   have a := a.chg c18 fun x hx q => by have := (pb x hx).2; omega
   exact a.chg c37 fun x hx q => by have := (pb x hx).2; omega
  have m1 : l1.length ≤ 4096 := by
   have h1 : (runL (opB 32) a1 s1).2 = s2 := by rw [ea2]
   cases hs2 : s2 with
   | none => exact absurd hs2 s2n
   | some m =>
    rw [hs2] at h1
    obtain ⟨g1, gl⟩ := zXt_ h1
    rw [ea2] at gl
    obtain ⟨_, g3⟩ := zXh_ (s := some ((bl s).drop 5)) (most := 4096) (by rw [ea1]; exact g1)
    rw [ea1] at g3
    dsimp only at gl g3
    omega
  have m2 : l2.length ≤ 4096 := by
   have h1 : (runL opI a3 s3).2 = some [] := by rw [ea4, c3]
   obtain ⟨g1, gl⟩ := zgv_ h1
   rw [ea4] at gl
   obtain ⟨_, g3⟩ := zXh_ (s := s2) (most := 4096) (by rw [ea3]; exact g1)
   rw [ea3] at g3
   dsimp only at gl g3
   omega
  refine .ifn (by simp [h0]) (.bnd (zA_ g37 rfl) (.bnd (show decC [.l, .l] [.slice r15.1.a r15.1.len r15.1.cap, .slice r17.1.a r17.1.len r17.1.cap] = some (r15.1, r17.1) from rfl) (.call (zrr_ (by omega) R1 R2 (by omega) (by omega)) fun r40 ⟨q40, k40⟩ => ?_)))
  have n40 := k40.nx
  have g40 := k40.got (by omega) g137
  rw [q40]
  by_cases c4 : chkF l1 l2 = 0
  ·have hd : decF (bl s) = some (l1, l2) := by
    unfold decF
    rw [if_pos ⟨hlen, c1⟩, eF, if_pos ⟨c3, c4⟩]
   rw [c4, h23]
   have g40f := k40.got (by omega) g37
   refine .ifn (by decide) (.bnd rfl (.bnd (zA_ g40f rfl) (.bnd (show decC [.l, .l] [.slice r15.1.a r15.1.len r15.1.cap, .slice r17.1.a r17.1.len r17.1.cap] = some (r15.1, r17.1) from rfl) (.bnd rfl (Wp.stL g40 rfl rfl rfl (by decide) fun h33 c33 n33 g33 => .bnd rfl (.bnd (zA_ g33 rfl) (.bnd rfl (.of ⟨fun f hf => ?_, fun hn => (by rw [hd] at hn; cases hn), (kz.trans k40).keepsS c33 fun y hy => by subst hy; omega⟩))))))))
   rw [hd] at hf
   cases hf
   exact ⟨rfl, (R1.keeps k40).chg c33 fun x hx q => by have := (pa x hx).2; omega, (R2.keeps k40).chg c33 fun x hx q => by have := (pb x hx).2; omega, fun a ha => by have := (pa a ha).2; omega, fun a ha => by have := (pb a ha).2; omega⟩
  ·have hd : decF (bl s) = none := by
    unfold decF
    rw [if_pos ⟨hlen, c1⟩, eF, if_neg (fun q => c4 q.2)]
   have hb : (chkF l1 l2 != 0) = true := by simpa using c4
   rw [hb]
   exact bad23 _ _ hd (kz.trans k40) g40 (by omega)
end
section
variable {k base bb : Nat} {H : AHeap} {s : Slc} {l : List UInt8}
end
section
variable {k base bb : Nat} {H : AHeap} {s : Slc} {l : List UInt8}
end
section
variable {k : Nat}
end
section
variable {k rb : Nat} {H H' : AHeap} {st : Rd}
section
variable {S : ByteArray} {a : Nat} {e : Int}
end
end
section
variable {k rb : Nat} {H H' : AHeap} {st : Rd} {S : ByteArray}
end
abbrev Sq := List UInt8 × Nat × Nat
def goOn : Nat → List UInt8 → Option (Nat × List UInt8)
 | _, [] => none
 | n, c :: t => if c.toNat < 255 then some (n + c.toNat, t) else goOn (n + c.toNat) t
def numP (n : Nat) (l : List UInt8) : Option (Nat × List UInt8) := if n < 15 then some (n, l) else goOn n l
def zz_ : Nat → List UInt8 → Nat → Option (List Sq × Nat)
 | 0, _, _ => none
 | _ + 1, [], _ => none
 | f + 1, tok :: l, long =>
  match numP (tok.toNat / 16) l with
  | none => none
  | some (a, l1) =>
   if l1.length < a then none
   else if l1.length = a then if tok.toNat % 16 = 0 then some ([(l1, 0, 0)], long + a) else none
   else match l1.drop a with
    | d0 :: d1 :: l2 => match numP (tok.toNat % 16) l2 with
     | none => none
     | some (b, l3) =>
      if d0.toNat + d1.toNat * 256 = 0 ∨ long + a < d0.toNat + d1.toNat * 256 then none
      else (zz_ f l3 (long + a + (b + 4))).map fun p => ((l1.take a, d0.toNat + d1.toNat * 256, b + 4) :: p.1, p.2)
    | _ => none
def numB (n : Nat) : List UInt8 := if n < 15 then [] else List.replicate ((n - 15) / 255) 255 ++ [UInt8.ofNat ((n - 15) % 255)]
def tokB (a d n : Nat) : UInt8 := UInt8.ofNat (min a 15 * 16 + if 0 < d then min (n - 4) 15 else 0)
def seqB (l : List UInt8) (d n : Nat) : List UInt8 := tokB l.length d n :: numB l.length ++ l ++ if 0 < d then UInt8.ofNat (d % 256) :: UInt8.ofNat (d / 256) :: numB (n - 4) else []
theorem zbv_ : ∀ {l : List UInt8} {n m : Nat} {t : List UInt8}, goOn n l = some (m, t) → n ≤ m ∧ ∃ p, l = p ++ t ∧ p ≠ [] ∧ m ≤ n + 255 * p.length
 | [], n, m, t, h => by simp [goOn] at h
 | c :: l, n, m, t, h => by
  have hc := c.toNat_lt
  unfold goOn at h
  split at h
  ·simp only [Option.some.injEq, Prod.mk.injEq] at h
   obtain ⟨rfl, rfl⟩ := h
   exact ⟨by omega, [c], rfl, by simp, by simp; omega⟩
  ·obtain ⟨h1, p, h2, h3, h4⟩ := zbv_ h
   refine ⟨by omega, c :: p, by simp [h2], by simp, ?_⟩
   simp only [List.length_cons]; omega
theorem zKj_ {l t : List UInt8} {n m : Nat} (h : numP n l = some (m, t)) : n ≤ m ∧ ∃ p, l = p ++ t ∧ m ≤ n + 255 * p.length := by
 unfold numP at h
 split at h
 ·simp only [Option.some.injEq, Prod.mk.injEq] at h
  obtain ⟨rfl, rfl⟩ := h
  exact ⟨Nat.le_refl _, [], rfl, by omega⟩
 ·obtain ⟨h1, p, h2, _, h4⟩ := zbv_ h
  exact ⟨h1, p, h2, h4⟩
theorem zfm_ {l t : List UInt8} {n m : Nat} (h : numP n l = some (m, t)) : t.length ≤ l.length := by
 obtain ⟨_, p, rfl, _⟩ := zKj_ h
 simp
theorem zxr_ : ∀ {f : Nat} {l : List UInt8} {long : Nat}, l.length < f → ∀ {g : Nat}, l.length < g → zz_ f l long = zz_ g l long
 | 0, l, _, h, _, _ => by omega
 | f + 1, [], _, _, g, hg => by
  obtain ⟨g, rfl⟩ : ∃ m, g = m + 1 := ⟨g - 1, by omega⟩
  rfl
 | f + 1, tok :: l, long, h, g, hg => by
  obtain ⟨g, rfl⟩ : ∃ m, g = m + 1 := ⟨g - 1, by simp at hg; omega⟩
  simp only [List.length_cons] at h hg
  unfold zz_
  split
  ·rfl
  ·rename_i a l1 ha
   have s1 := zfm_ ha
   split
   ·rfl
   ·split
    ·rfl
    ·split
     ·rename_i d0 d1 l2 he
      have s2 : l2.length + 2 ≤ l1.length := by
       have := congrArg List.length he
       simp at this; omega
      split
      ·rfl
      ·rename_i b l3 hb
       have s3 := zfm_ hb
       split
       ·rfl
       ·rw [zxr_ (f := f) (g := g) (by omega) (by omega)]
     ·rfl
theorem zVq_ : ∀ {f : Nat} {l : List UInt8} {long : Nat} {qs : List Sq} {n : Nat}, zz_ f l long = some (qs, n) → long ≤ n ∧ n ≤ long + 255 * l.length
 | 0, l, _, _, _, h => by simp [zz_] at h
 | f + 1, [], _, _, _, h => by simp [zz_] at h
 | f + 1, tok :: l, long, qs, n, h => by
  have ht := tok.toNat_lt
  unfold zz_ at h
  split at h
  ·cases h
  ·rename_i a l1 ha
   obtain ⟨k1, p, rfl, k2⟩ := zKj_ ha
   split at h
   ·cases h
   ·split at h
    ·split at h
     ·simp only [Option.some.injEq, Prod.mk.injEq] at h
      obtain ⟨rfl, rfl⟩ := h
      simp only [List.length_cons, List.length_append]
      omega
     ·cases h
    ·split at h
     ·rename_i d0 d1 l2 he
      have s2 : l2.length + 2 + a = l1.length := by
       have := congrArg List.length he
       simp at this; omega
      split at h
      ·cases h
      ·rename_i b l3 hb
       obtain ⟨k3, p2, e2, k4⟩ := zKj_ hb
       split at h
       ·cases h
       ·cases hp : zz_ f l3 (long + a + (b + 4)) with
        | none => rw [hp] at h; cases h
        | some q =>
         rw [hp] at h
         simp only [Option.map_some, Option.some.injEq, Prod.mk.injEq] at h
         obtain ⟨rfl, rfl⟩ := h
         obtain ⟨g1, g2⟩ := zVq_ (qs := q.1) (n := q.2) hp
         have e3 := congrArg List.length e2
         simp only [List.length_append] at e3
         simp only [List.length_cons, List.length_append]
         constructor
         ·omega
         ·have : tok.toNat / 16 + tok.toNat % 16 ≤ 30 := by omega
          have : 255 * (p.length + l1.length + 1) = 255 * p.length + 255 * l1.length + 255 := by omega
          omega
     ·cases h
theorem zsr_ (r : List UInt8) (c : Nat) (hc : c < 255) : ∀ (k n : Nat), goOn n (List.replicate k 255 ++ [UInt8.ofNat c] ++ r) = some (n + 255 * k + c, r)
 | 0, n => by
  have e : (UInt8.ofNat c).toNat = c := by rw [UInt8.toNat_ofNat']; omega
  simp only [List.replicate_zero, List.nil_append, List.singleton_append]
  unfold goOn
  rw [e, if_pos hc]; rfl
 | k + 1, n => by
  rw [List.replicate_succ]
  simp only [List.cons_append]
  unfold goOn
  rw [if_neg (by decide)]
  have := zsr_ r c hc k (n + (255 : UInt8).toNat)
  simp only [List.append_assoc] at this ⊢
  rw [this]
  congr 2
  show n + 255 + 255 * k + c = _
  omega
theorem zHl_ (n : Nat) (r : List UInt8) : numP (min n 15) (numB n ++ r) = some (n, r) := by
 unfold numP numB
 by_cases c : n < 15
 ·rw [if_pos (by omega), if_pos c, Nat.min_eq_left (by omega)]; rfl
 ·rw [if_neg (by omega), if_neg c, Nat.min_eq_right (by omega), zsr_ r _ (Nat.mod_lt _ (by decide))]
  congr 2
  omega
theorem zHA_ (a d n : Nat) : (tokB a d n).toNat / 16 = min a 15 := by
 unfold tokB
 rw [UInt8.toNat_ofNat']
 split <;> omega
theorem zND_ {d : Nat} (a n : Nat) (hd : 0 < d) : (tokB a d n).toNat % 16 = min (n - 4) 15 := by
 unfold tokB
 rw [UInt8.toNat_ofNat', if_pos hd]
 omega
theorem zAD_ (a n : Nat) : (tokB a 0 n).toNat % 16 = 0 := by
 unfold tokB
 rw [UInt8.toNat_ofNat', if_neg (by omega)]
 omega
theorem zsz_ {f : Nat} {l r : List UInt8} {d n long : Nat} (hd : 0 < d) (hd2 : d ≤ 65535) (hl : d ≤ long + l.length) (hn : 4 ≤ n) :
  zz_ (f + 1) (seqB l d n ++ r) long = (zz_ f r (long + l.length + n)).map fun p => ((l, d, n) :: p.1, p.2) := by
 have e0 : (UInt8.ofNat (d % 256)).toNat = d % 256 := by rw [UInt8.toNat_ofNat']; omega
 have e1 : (UInt8.ofNat (d / 256)).toNat = d / 256 := by rw [UInt8.toNat_ofNat']; omega
 unfold seqB
 rw [if_pos hd]
 simp only [List.cons_append, List.append_assoc]
 conv => lhs; unfold zz_
 rw [zHA_, zHl_]
 simp only []
 rw [if_neg (by simp), if_neg (by simp), List.drop_left, zND_ _ _ hd]
 simp only []
 rw [zHl_]
 simp only []
 rw [e0, e1, show d % 256 + d / 256 * 256 = d by omega, if_neg (by omega), show n - 4 + 4 = n by omega, List.take_left]
theorem zRx_ {f : Nat} {l : List UInt8} {long : Nat} : zz_ (f + 1) (seqB l 0 0) long = some ([(l, 0, 0)], long + l.length) := by
 unfold seqB
 rw [if_neg (by omega), List.append_nil, List.cons_append]
 unfold zz_
 rw [zHA_, zHl_]
 simp only []
 rw [if_neg (by omega), if_pos trivial, if_pos (zAD_ _ _)]
def repP (d : Nat) : Nat → List UInt8 → List UInt8
 | 0, out => out
 | n + 1, out => repP d n (out ++ [out[out.length - d]?.getD 0])
def zId_ : List Sq → List UInt8 → List UInt8
 | [], out => out
 | q :: qs, out => zId_ qs (repP q.2.1 q.2.2 (out ++ q.1))
def totQ : List Sq → Nat
 | [] => 0
 | q :: qs => q.1.length + q.2.2 + totQ qs
def okQ : List Sq → Nat → Prop
 | [], _ => True
 | q :: qs, long => (q.2.2 = 0 ∨ 0 < q.2.1 ∧ q.2.1 ≤ long + q.1.length) ∧ okQ qs (long + q.1.length + q.2.2)
theorem zzq_ (d : Nat) : ∀ (n : Nat) (out : List UInt8), (repP d n out).length = out.length + n
 | 0, out => rfl
 | n + 1, out => by rw [repP, zzq_ d n]; simp; omega
theorem zts_ : ∀ (qs : List Sq) (out : List UInt8), (zId_ qs out).length = out.length + totQ qs
 | [], out => by simp [zId_, totQ]
 | q :: qs, out => by rw [zId_, zts_ qs, zzq_, totQ, List.length_append]; omega
theorem zGn_ : ∀ (qs rs : List Sq) (out : List UInt8), zId_ (qs ++ rs) out = zId_ rs (zId_ qs out)
 | [], rs, out => rfl
 | q :: qs, rs, out => by rw [List.cons_append, zId_, zId_, zGn_ qs rs]
theorem zCq_ (d : Nat) : ∀ (a b : Nat) (out : List UInt8), repP d (a + b) out = repP d b (repP d a out)
 | 0, b, out => by rw [Nat.zero_add]; rfl
 | a + 1, b, out => by rw [show a + 1 + b = (a + b) + 1 by omega, repP, zCq_ d a b]; rfl
theorem zxu_ (d : Nat) : ∀ (n : Nat) (out : List UInt8), n ≤ d → d ≤ out.length → repP d n out = out ++ (out.drop (out.length - d)).take n
 | 0, out, _, _ => by simp [repP]
 | n + 1, out, hn, hd => by
  rw [Nat.add_comm, zCq_, zxu_ d n _ (by omega) (by simp [repP]; omega)]
  simp only [repP]
  obtain ⟨x, hx⟩ := zv_ (l := out) (i := out.length - d) (by omega)
  rw [hx, Option.getD_some, List.append_assoc, List.length_append, zKd_ hx, Nat.add_comm 1 n, List.take_succ_cons, List.drop_append_of_le_length (by simp; omega)]
  congr 1
  show x :: ((out.drop (out.length + [x].length - d)) ++ [x]).take n = _
  rw [show out.length + [x].length - d = out.length - d + 1 by simp; omega, List.take_append_of_le_length (by simp; omega)]
theorem zAs_ {s : List UInt8} {d : Nat} : ∀ (n at' : Nat), 0 < d → d ≤ at' → at' + n ≤ s.length → (∀ i, i < n → s[at' + i]? = s[at' - d + i]?) → repP d n (s.take at') = s.take (at' + n)
 | 0, at', _, _, _, _ => rfl
 | n + 1, at', h0, hd, hl, hs => by
  rw [repP]
  have e : (s.take at').length = at' := by simp; omega
  have g := hs 0 (by omega)
  rw [Nat.add_zero, Nat.add_zero] at g
  obtain ⟨x, hx⟩ := zv_ (l := s) (i := at') (by omega)
  rw [e, List.getElem?_take, if_pos (by omega), ← g, hx, Option.getD_some]
  have e2 : s.take at' ++ [x] = s.take (at' + 1) := by rw [List.take_add_one, hx]; rfl
  rw [e2, zAs_ n (at' + 1) h0 (by omega) (by omega) fun i hi => by
   have := hs (i + 1) (by omega)
   rw [show at' + 1 + i = at' + (i + 1) by omega, show at' + 1 - d + i = at' - d + (i + 1) by omega]; exact this]
  congr 1; omega
theorem zgo_ : ∀ {f : Nat} {l : List UInt8} {long : Nat} {qs : List Sq} {n : Nat}, zz_ f l long = some (qs, n) → n = long + totQ qs ∧ okQ qs long
 | 0, l, _, _, _, h => by simp [zz_] at h
 | f + 1, [], _, _, _, h => by simp [zz_] at h
 | f + 1, tok :: l, long, qs, n, h => by
  unfold zz_ at h
  split at h
  ·cases h
  ·rename_i a l1 ha
   split at h
   ·cases h
   ·split at h
    ·split at h
     ·simp only [Option.some.injEq, Prod.mk.injEq] at h
      obtain ⟨rfl, rfl⟩ := h
      rename_i c1 _
      simp [totQ, okQ, c1]
     ·cases h
    ·split at h
     ·rename_i d0 d1 l2 he
      split at h
      ·cases h
      ·rename_i b l3 hb
       split at h
       ·cases h
       ·rename_i cd
        cases hp : zz_ f l3 (long + a + (b + 4)) with
        | none => rw [hp] at h; cases h
        | some q =>
         rw [hp] at h
         simp only [Option.map_some, Option.some.injEq, Prod.mk.injEq] at h
         obtain ⟨rfl, rfl⟩ := h
         obtain ⟨g1, g2⟩ := zgo_ (qs := q.1) (n := q.2) hp
         have e1 : (l1.take a).length = a := by rw [List.length_take]; omega
         refine ⟨by rw [totQ]; simp only [e1]; omega, .inr ⟨by show 0 < d0.toNat + d1.toNat * 256; omega, by show d0.toNat + d1.toNat * 256 ≤ long + (l1.take a).length; omega⟩, ?_⟩
         show okQ q.1 (long + (l1.take a).length + (b + 4))
         rw [e1]; exact g2
     ·cases h
theorem zSq_ : ∀ {f g : Nat} {l : List UInt8} {long : Nat} {x}, f ≤ g → zz_ f l long = some x → zz_ g l long = some x
 | 0, _, l, _, _, _, h => by simp [zz_] at h
 | f + 1, g, [], _, _, _, h => by simp [zz_] at h
 | f + 1, g, tok :: l, long, x, hg, h => by
  obtain ⟨g, rfl⟩ : ∃ m, g = m + 1 := ⟨g - 1, by omega⟩
  unfold zz_ at h ⊢
  split at h
  ·cases h
  ·rename_i a l1 ha
   split at h
   ·cases h
   ·rename_i c0
    rw [if_neg c0]
    split at h
    ·rename_i c1
     rw [if_pos c1]; exact h
    ·rename_i c1
     rw [if_neg c1]
     split at h
     ·rename_i d0 d1 l2 he
      split at h
      ·cases h
      ·rename_i b l3 hb
       split at h
       ·cases h
       ·rename_i cd
        rw [if_neg cd]
        cases hp : zz_ f l3 (long + a + (b + 4)) with
        | none => rw [hp] at h; cases h
        | some q =>
         rw [hp] at h
         rw [zSq_ (f := f) (g := g) (by omega) hp]; exact h
     ·cases h
def unz (l : List UInt8) : Option (List Sq × Nat) := zz_ (l.length + 1) l 0
def unpB (l : List UInt8) (long : Int) : Option (List UInt8) := match unz l with
 | some (qs, n) => if long = n ∧ long ≤ 1048576 then some (zId_ qs []) else none
 | none => none
theorem zpq_ {l r : List UInt8} {long : Int} (h : unpB l long = some r) : (r.length : Int) = long ∧ long ≤ 1048576 := by
 unfold unpB at h
 split at h
 ·rename_i qs n e
  split at h
  ·rename_i c
   obtain rfl := Option.some.inj h
   have := (zgo_ (qs := qs) (n := n) e).1
   rw [zts_]
   simp; omega
  ·cases h
 ·cases h
def lcp : List UInt8 → List UInt8 → Nat
 | a :: x, b :: y => if a = b then lcp x y + 1 else 0
 | _, _ => 0
theorem zWz_ : ∀ {x y : List UInt8} {i : Nat}, i < lcp x y → x[i]? = y[i]? ∧ i < y.length
 | [], y, i, h => by simp [lcp] at h
 | a :: x, [], i, h => by simp [lcp] at h
 | a :: x, b :: y, i, h => by
  unfold lcp at h
  split at h
  ·rename_i c
   cases i with
   | zero => subst c; simp
   | succ i => obtain ⟨g1, g2⟩ := zWz_ (x := x) (y := y) (i := i) (by omega); simpa using ⟨g1, g2⟩
  ·omega
abbrev Fr := List UInt8 × Nat × Nat
def four (s : List UInt8) (i : Nat) : List UInt8 := (s.drop i).take 4
def ztc_ (s : List UInt8) (i : Nat) : Nat → Nat × Nat
 | 0 => (0, 0)
 | n + 1 => if (ztc_ s i n).2 < lcp (s.drop (i - (n + 1))) (s.drop i) then (n + 1, lcp (s.drop (i - (n + 1))) (s.drop i)) else ztc_ s i n
def znb_ (s : List UInt8) (i : Nat) (es : List Fr) : Nat × Nat :=
 match lkM (four s i) es with
 | some v => if i - v ≤ 65535 ∧ (ztc_ s i (min 64 i)).2 < lcp (s.drop v) (s.drop i) then (i - v, lcp (s.drop v) (s.drop i)) else ztc_ s i (min 64 i)
 | none => ztc_ s i (min 64 i)
def put1 (s : List UInt8) (i : Nat) (es : List Fr) : List Fr := if i + 4 ≤ s.length then ptM (four s i) i es.length es else es
def putN (s : List UInt8) : Nat → Nat → List Fr → List Fr
 | 0, _, es => es
 | n + 1, i, es => putN s n (i + 1) (put1 s i es)
def zxi_ (s : List UInt8) : Nat → Nat → Nat → List Fr → List UInt8 → List UInt8
 | 0, _, _, _, out => out
 | f + 1, i, kept, es, out =>
  if i + 4 < s.length then
   if 4 ≤ min (znb_ s i es).2 (s.length - 1 - i) then
    zxi_ s f (i + min (znb_ s i es).2 (s.length - 1 - i)) (i + min (znb_ s i es).2 (s.length - 1 - i)) (putN s (min (znb_ s i es).2 (s.length - 1 - i)) i es)
     (out ++ seqB ((s.take i).drop kept) (znb_ s i es).1 (min (znb_ s i es).2 (s.length - 1 - i)))
   else zxi_ s f (i + 1) kept (putN s 1 i es) out
  else out ++ seqB (s.drop kept) 0 0
def zse_ (s : List UInt8) : List UInt8 := zxi_ s (s.length + 1) 0 0 [] []
theorem zlq_ (s : List UInt8) (i : Nat) : ∀ n, n ≤ 64 → n ≤ i → (ztc_ s i n).2 = 0 ∨ (0 < (ztc_ s i n).1 ∧ (ztc_ s i n).1 ≤ 65535 ∧ (ztc_ s i n).1 ≤ i ∧ (ztc_ s i n).2 = lcp (s.drop (i - (ztc_ s i n).1)) (s.drop i))
 | 0, _, _ => .inl rfl
 | n + 1, h1, h2 => by
  unfold ztc_
  split
  ·exact .inr ⟨by simp, by simp; omega, by simpa using h2, rfl⟩
  ·exact zlq_ s i n (by omega) (by omega)
def zGk_ (i : Nat) (es : List Fr) : Prop := ∀ e ∈ es, e.2.1 < i
theorem zyy_ {s : List UInt8} {i : Nat} {es : List Fr} (h : zGk_ i es) : zGk_ (i + 1) (put1 s i es) := by
 intro e he
 unfold put1 at he
 split at he
 ·rcases zls_ he with ⟨_, g⟩ | g
  ·omega
  ·have := h e g; omega
 ·have := h e he; omega
theorem zHh_ {s : List UInt8} : ∀ (n i : Nat) {es : List Fr}, zGk_ i es → zGk_ (i + n) (putN s n i es)
 | 0, i, es, h => h
 | n + 1, i, es, h => by
  have := zHh_ (s := s) n (i + 1) (zyy_ (s := s) h)
  rw [show i + (n + 1) = i + 1 + n by omega]; exact this
theorem zwu_ {s : List UInt8} {i : Nat} {es : List Fr} (ha : zGk_ i es) : (znb_ s i es).2 = 0 ∨ (0 < (znb_ s i es).1 ∧ (znb_ s i es).1 ≤ 65535 ∧ (znb_ s i es).1 ≤ i ∧ (znb_ s i es).2 = lcp (s.drop (i - (znb_ s i es).1)) (s.drop i)) := by
 have b := zlq_ s i (min 64 i) (by omega) (by omega)
 unfold znb_
 split
 ·rename_i v hv
  obtain ⟨e, he, _, e2⟩ := zgs_ hv
  have := ha e he
  split
  ·rename_i c
   exact .inr ⟨by simp; omega, c.1, by simp, by simp only []; rw [show i - (i - v) = v by omega]⟩
  ·exact b
 ·exact b
theorem zPr_ {s : List UInt8} : ∀ (f i kept : Nat) (es : List Fr) (out : List UInt8) (qs : List Sq), s.length < i + f → i ≤ s.length → kept ≤ i → (kept < s.length ∨ kept = 0) → kept ≤ s.length → zGk_ i es →
  (∀ g r, zz_ (g + qs.length) (out ++ r) 0 = (zz_ g r kept).map fun p => (qs ++ p.1, p.2)) → zId_ qs [] = s.take kept →
  ∃ g rs, zz_ g (zxi_ s f i kept es out) 0 = some (rs, s.length) ∧ zId_ rs [] = s
 | 0, i, kept, es, out, qs, hf, hi, hk, _, hl, _, _, _ => by omega
 | f + 1, i, kept, es, out, qs, hf, hi, hk, hkl, hl, ha, hp, ho => by
  unfold zxi_
  split
  ·rename_i c
   split
   ·rename_i c4
    obtain ⟨m, hm⟩ : ∃ m, m = min (znb_ s i es).2 (s.length - 1 - i) := ⟨_, rfl⟩
    rw [← hm] at c4 ⊢
    rcases zwu_ (s := s) ha with b | ⟨b1, b2, b3, b4⟩
    ·omega
    ·have hsl : ((s.take i).drop kept).length = i - kept := by simp; omega
     refine zPr_ f (i + m) (i + m) _ _ (qs ++ [((s.take i).drop kept, (znb_ s i es).1, m)]) (by omega) (by omega) (Nat.le_refl _) (.inl (by omega)) (by omega) (zHh_ m i ha) (fun g r => ?_) ?_
     ·rw [List.append_assoc, List.length_append, show g + (qs.length + [((s.take i).drop kept, (znb_ s i es).1, m)].length) = (g + 1) + qs.length by simp; omega, hp, zsz_ b1 b2 (by rw [hsl]; omega) c4, hsl, show kept + (i - kept) + m = i + m by omega]
      cases zz_ g r (i + m) <;> simp
     ·rw [zGn_, ho]
      simp only [zId_]
      have e : s.take kept ++ (s.take i).drop kept = s.take i := by
       have : s.take kept = (s.take i).take kept := by rw [List.take_take, Nat.min_eq_left hk]
       rw [this, List.take_append_drop]
      rw [e]
      refine zAs_ m i b1 b3 (by omega) fun j hj => ?_
      have := (zWz_ (x := s.drop (i - (znb_ s i es).1)) (y := s.drop i) (i := j) (by omega)).1
      rw [List.getElem?_drop, List.getElem?_drop] at this
      exact this.symm
   ·exact zPr_ f (i + 1) kept _ _ qs (by omega) (by omega) (by omega) hkl hl (zHh_ 1 i ha) hp ho
  ·refine ⟨1 + qs.length, qs ++ [(s.drop kept, 0, 0)], ?_, ?_⟩
   ·rw [hp, zRx_]
    simp; omega
   ·rw [zGn_, ho]
    simp [zId_, repP]
theorem zFB_ (s : List UInt8) : ∃ qs, unz (zse_ s) = some (qs, s.length) ∧ zId_ qs [] = s := by
 obtain ⟨g, rs, h1, h2⟩ := zPr_ (s := s) (s.length + 1) 0 0 [] [] [] (by omega) (by omega) (Nat.le_refl _) (.inr rfl) (by omega) (fun e he => by cases he) (fun g r => by simp) rfl
 refine ⟨rs, ?_, h2⟩
 have := zSq_ (g := max g ((zse_ s).length + 1)) (Nat.le_max_left ..) h1
 unfold unz
 rw [zxr_ (f := (zse_ s).length + 1) (g := max g ((zse_ s).length + 1)) (by omega) (by omega)]
 exact this
theorem zzb_ {h : AHeap} {b o : Nat} {sp : Option Nat} {c : List Value} {e : TypeId} {r : Bool} {fz : Nat} {m : ByteArray} (hb : h.get b = some (.cells c e r fz)) (hc : c[o]? = some (.string m)) : Gx.ldS ⟨b, o, sp⟩ h = some m := by
 simp [Gx.ldS, AHeap.rd1, hb, hc, decS]
theorem zLf_ {h : AHeap} {b o : Nat} {sp : Option Nat} {c : List Value} {e : TypeId} {r : Bool} {fz : Nat} {m : Bool} (hb : h.get b = some (.cells c e r fz)) (hc : c[o]? = some (.bool m)) : Gx.ldB ⟨b, o, sp⟩ h = some m := by
 simp [Gx.ldB, AHeap.rd1, hb, hc, decB]
theorem zvo_ {h : AHeap} {b o : Nat} {sp : Option Nat} {c : List Value} {e : TypeId} {r : Bool} {fz : Nat} {m : Option Nat} (hb : h.get b = some (.cells c e r fz)) (hc : c[o]? = some (.map m)) : Gx.ldM ⟨b, o, sp⟩ h = some m := by
 simp [Gx.ldM, AHeap.rd1, hb, hc, decM]
structure RL (h : AHeap) (rb : Nat) (s : ByteArray) (p : Nat) (bad : Bool) : Prop where
 g : h.get rb = some (.cells [.string s, .int .i64 (p : Int), .bool bad] 210 true 0)
 lt : rb < h.next
section
variable {k rb p : Nat} {h h' : AHeap} {s : ByteArray} {b : Bool}
theorem RL.chg {S : Nat → Prop} (R : RL h rb s p b) (c : Chg S h h') (hs : ¬ S rb) : RL h' rb s p b := ⟨c.got R.lt hs R.g, Nat.lt_of_lt_of_le R.lt c.nx⟩
theorem RL.keeps (R : RL h rb s p b) (c : zc_ h h') : RL h' rb s p b := R.chg c fun f => f
theorem zHv_ {i : Nat} {c : UInt8} (hc : (bl s)[i]? = some c) : i < s.size := by
 have := (List.getElem?_eq_some_iff.1 hc).1
 rw [zh_] at this; exact this
theorem zGf_ (D : za_) (R : RL h rb s p b) (hs : s.size ≤ 1000000) (_hp : p ≤ s.size) :
  Gx.Wp (zGc_ k D (some ⟨rb, 0, none⟩) h) fun z => Chg (· = rb) h z.2 ∧ z.2.next = h.next ∧
   match (bl s)[p]? with
   | some c => z.1 = (c.toNat : Int) ∧ RL z.2 rb s (p + 1) b
   | none => z.1 = 0 ∧ RL z.2 rb s p true := by
 simp only [zGc_]
 refine .bnd rfl (.bnd (zp_ R.g rfl) (.bnd rfl (.bnd (zzb_ R.g rfl) ?_)))
 cases hc : (bl s)[p]? with
 | none =>
  have : s.size ≤ p := by have := List.getElem?_eq_none_iff.1 hc; rw [zh_] at this; exact this
  refine .ifp (by simp; omega) (.bnd rfl ?_)
  refine Wp.st R.g (by simp) rfl fun H c n g => .of ⟨c, n, rfl, g, by show rb < H.next; rw [n]; exact R.lt⟩
 | some c =>
  have hlt := zHv_ hc
  refine .ifn (by simp; omega) (.bnd rfl (.bnd (zp_ R.g rfl) (.bnd rfl ?_)))
  rw [Gx.w1 (by omega)]
  refine Wp.st R.g (by simp) rfl fun H c1 n g => ?_
  refine .bnd rfl (.bnd (zzb_ g rfl) (.bnd rfl (.bnd (zp_ g rfl) ?_)))
  rw [show IntKind.wrap .i64 (((p + 1 : Nat) : Int) - 1) = (p : Int) by rw [Gx.w64 _ (by omega)]; omega]
  have hb := c.toNat_lt
  refine .bnd (zof_ hc) (.of ⟨c1, n, ?_, g, by show rb < H.next; rw [n]; exact R.lt⟩)
  exact Gx.w64 _ (by omega)
theorem zDp_ (D : za_) (hk : s.size + 2 ≤ k) (R : RL h rb s p false) (hs : s.size ≤ 1000000) (hp : p ≤ s.size) {n : Nat} (hn : n ≤ 1000000) :
  Gx.Wp (zkc_ k D (some ⟨rb, 0, none⟩) (n : Int) h) fun z => Chg (· = rb) h z.2 ∧ z.2.next = h.next ∧
   match numP n ((bl s).drop p) with
   | some (m, t) => z.1 = (m : Int) ∧ ∃ q, p ≤ q ∧ q ≤ s.size ∧ t = (bl s).drop q ∧ RL z.2 rb s q false
   | none => ∃ q m : Nat, z.1 = (m : Int) ∧ q ≤ s.size ∧ RL z.2 rb s q true := by
 simp only [zkc_, numP]
 by_cases c : n < 15
 ·rw [if_pos c]
  exact .ifp (by simp; omega) (.of ⟨Chg.refl _ _, rfl, rfl, p, Nat.le_refl _, hp, rfl, R⟩)
 ·rw [if_neg c]
  refine .ifn (by simp; omega) ?_
  unfold zuf_
  obtain ⟨bot, eb⟩ := zq_ (fun _ _ _ => none) (ztb_ k D) (show (s.size - p) + 1 ≤ k by omega)
  rw [eb]
  have loop : ∀ (d q n : Nat) (H : AHeap), q + d = s.size → n + 255 * d ≤ 256000000 → RL H rb s q false →
    Gx.Wp (zi_ bot (d + 1) (ztb_ k D) (some ⟨rb, 0, none⟩) (n : Int) H) fun z => Chg (· = rb) H z.2 ∧ z.2.next = H.next ∧
     match goOn n ((bl s).drop q) with
     | some (m, t) => z.1 = (m : Int) ∧ ∃ q', q ≤ q' ∧ q' ≤ s.size ∧ t = (bl s).drop q' ∧ RL z.2 rb s q' false
     | none => ∃ q' m : Nat, z.1 = (m : Int) ∧ q' ≤ s.size ∧ RL z.2 rb s q' true := fun d => by
   induction d with
   | zero =>
    intro q n H hd hn R
    rw [zg_]; simp only [ztb_]
    refine .call (zGf_ D R hs (by omega)) fun r ⟨c1, n1, h1⟩ => ?_
    have e : (bl s)[q]? = none := List.getElem?_eq_none_iff.2 (by rw [zh_]; omega)
    rw [e] at h1
    obtain ⟨h1, R1⟩ := h1
    refine Wp.jn fun j hj => ?_
    have e2 : (bl s).drop q = [] := List.drop_of_length_le (by rw [zh_]; omega)
    rw [e2, h1]
    refine .ifp (by decide) ?_
    rw [hj]
    refine .ifp rfl (.of ⟨c1, n1, q, n, ?_, by omega, R1⟩)
    exact Gx.w64 _ (by omega)
   | succ d ih =>
    intro q n H hd hn R
    rw [zg_]; simp only [ztb_]
    obtain ⟨c, hc⟩ := zv_ (l := bl s) (i := q) (by rw [zh_]; omega)
    refine .call (zGf_ D R hs (by omega)) fun r ⟨c1, n1, h1⟩ => ?_
    rw [hc] at h1
    obtain ⟨h1, R1⟩ := h1
    have hcl := c.toNat_lt
    refine Wp.jn fun j hj => ?_
    have ew : IntKind.wrap .i64 ((n : Int) + r.1) = ((n + c.toNat : Nat) : Int) := by rw [h1, Gx.w64 _ (by omega)]; omega
    rw [zKd_ hc]
    unfold goOn
    rw [ew]
    by_cases c2 : c.toNat < 255
    ·rw [if_pos c2]
     refine .ifp (by simp; omega) ?_
     rw [hj]
     exact .ifp rfl (.of ⟨c1, n1, rfl, q + 1, by omega, by omega, rfl, R1⟩)
    ·rw [if_neg c2]
     refine .ifn (by simp; omega) (.bnd rfl (.bnd (zLf_ R1.g rfl) ?_))
     rw [hj]
     refine .ifn (by decide) (.mono (ih (q + 1) (n + c.toNat) r.2 (by omega) (by omega) R1) fun z ⟨a1, a2, a3⟩ => ⟨c1.trans a1, a2.trans n1, ?_⟩)
     cases hg : goOn (n + c.toNat) ((bl s).drop (q + 1)) with
     | none => rw [hg] at a3; exact a3
     | some x =>
      rw [hg] at a3
      obtain ⟨m, t⟩ := x
      obtain ⟨b1, q', b2, b3, b4, b5⟩ := a3
      exact ⟨b1, q', by omega, b3, b4, b5⟩
  exact loop (s.size - p) p n h (by omega) (by omega) R
end
section
variable {f a b long : Nat} {tok d0 d1 : UInt8} {l l1 l2 l3 : List UInt8}
theorem zsD_ (h : numP (tok.toNat / 16) l = none) : zz_ (f + 1) (tok :: l) long = none := by
 unfold zz_; rw [h]
theorem zmD_ (h : numP (tok.toNat / 16) l = some (a, l1)) (c : l1.length < a) : zz_ (f + 1) (tok :: l) long = none := by
 unfold zz_; rw [h]; simp only []; rw [if_pos c]
theorem zsC_ (h : numP (tok.toNat / 16) l = some (a, l1)) (c : l1.length = a) : zz_ (f + 1) (tok :: l) long = if tok.toNat % 16 = 0 then some ([(l1, 0, 0)], long + a) else none := by
 unfold zz_; rw [h]; simp only []; rw [if_neg (by omega), if_pos c]
theorem zoD_ (h : numP (tok.toNat / 16) l = some (a, l1)) (c : a < l1.length) (hd : l1.drop a = [d0]) : zz_ (f + 1) (tok :: l) long = none := by
 unfold zz_; rw [h]; simp only []; rw [if_neg (by omega), if_neg (by omega), hd]
theorem zjD_ (h : numP (tok.toNat / 16) l = some (a, l1)) (c : a < l1.length) (hd : l1.drop a = d0 :: d1 :: l2) (h2 : numP (tok.toNat % 16) l2 = none) : zz_ (f + 1) (tok :: l) long = none := by
 unfold zz_; rw [h]; simp only []; rw [if_neg (by omega), if_neg (by omega), hd]; simp only []; rw [h2]
theorem zID_ (h : numP (tok.toNat / 16) l = some (a, l1)) (c : a < l1.length) (hd : l1.drop a = d0 :: d1 :: l2) (h2 : numP (tok.toNat % 16) l2 = some (b, l3)) (hf : d0.toNat + d1.toNat * 256 = 0 ∨ long + a < d0.toNat + d1.toNat * 256) :
  zz_ (f + 1) (tok :: l) long = none := by
 unfold zz_; rw [h]; simp only []; rw [if_neg (by omega), if_neg (by omega), hd]; simp only []; rw [h2]; simp only []; rw [if_pos hf]
theorem zjE_ (h : numP (tok.toNat / 16) l = some (a, l1)) (c : a < l1.length) (hd : l1.drop a = d0 :: d1 :: l2) (h2 : numP (tok.toNat % 16) l2 = some (b, l3)) (hf : ¬ (d0.toNat + d1.toNat * 256 = 0 ∨ long + a < d0.toNat + d1.toNat * 256)) :
  zz_ (f + 1) (tok :: l) long = (zz_ f l3 (long + a + (b + 4))).map fun p => ((l1.take a, d0.toNat + d1.toNat * 256, b + 4) :: p.1, p.2) := by
 conv => lhs; unfold zz_
 rw [h]; simp only []; rw [if_neg (by omega), if_neg (by omega), hd]; simp only []; rw [h2]; simp only []; rw [if_neg hf]
end
theorem zJs_ : ∀ {f : Nat} {l : List UInt8} {long : Nat} {qs : List Sq} {n : Nat}, zz_ f l long = some (qs, n) → qs.length ≤ l.length
 | 0, l, _, _, _, h => by simp [zz_] at h
 | f + 1, [], _, _, _, h => by simp [zz_] at h
 | f + 1, tok :: l, long, qs, n, h => by
  unfold zz_ at h
  split at h
  ·cases h
  ·rename_i a l1 ha
   have s1 := zfm_ ha
   split at h
   ·cases h
   ·split at h
    ·split at h
     ·simp only [Option.some.injEq, Prod.mk.injEq] at h
      obtain ⟨rfl, rfl⟩ := h
      simp
     ·cases h
    ·split at h
     ·rename_i d0 d1 l2 he
      have s2 : l2.length + 2 ≤ l1.length := by
       have := congrArg List.length he
       simp at this; omega
      split at h
      ·cases h
      ·rename_i b l3 hb
       have s3 := zfm_ hb
       split at h
       ·cases h
       ·cases hp : zz_ f l3 (long + a + (b + 4)) with
        | none => rw [hp] at h; cases h
        | some q =>
         rw [hp] at h
         simp only [Option.map_some, Option.some.injEq, Prod.mk.injEq] at h
         obtain ⟨rfl, rfl⟩ := h
         have := zJs_ (qs := q.1) (n := q.2) hp
         simp only [List.length_cons]
         omega
     ·cases h
theorem zcu_ : ∀ a : Fin 256, Go.bits .and .i64 (a.val : Int) 15 = ((a.val % 16 : Nat) : Int) := by decide +kernel
theorem ziE_ {n m i : Nat} (hn : n < 2 ^ i) (hb : n + m * 2 ^ i < 9223372036854775808) : Go.bits .or .i64 (n : Int) ((m * 2 ^ i : Nat) : Int) = ((n + m * 2 ^ i : Nat) : Int) := by
 have hw : ∀ z : Int, 0 ≤ z → z < 2 ^ 63 → IntKind.wrap .i64 z = z := fun z h0 h1 => Gx.w64 z (by omega)
 have e := (bits_nat .i64 63 (by decide) hw n (m * 2 ^ i) (by omega) (by omega)).2
 rw [e]
 congr 1
 have := Nat.two_pow_add_eq_or_of_lt hn m
 rw [Nat.or_comm, Nat.mul_comm, ← this]
 omega
theorem zDz_ (c d : UInt8) : Go.bits .or .i64 (c.toNat : Int) (IntKind.wrap .i64 ((d.toNat : Int) * 256)) = ((c.toNat + d.toNat * 256 : Nat) : Int) := by
 have hc := c.toNat_lt
 have hd := d.toNat_lt
 have := ziE_ (n := c.toNat) (m := d.toNat) (i := 8) (by omega) (by omega)
 rw [Gx.w64 _ (by omega)]
 rw [show (d.toNat : Int) * 256 = ((d.toNat * 2 ^ 8 : Nat) : Int) by omega]
 exact this
def encQ (q : Sq) : List Value := [.string ⟨⟨q.1⟩⟩, .int .i64 (q.2.1 : Int), .int .i64 (q.2.2 : Int)]
theorem zii_ (q : Sq) : (encQ q).length = 3 := rfl
theorem zTt_ (q : Sq) : zI_ (encQ q) = true := rfl
section
variable {k rb p : Nat} {h h' : AHeap} {s : ByteArray} {b : Bool}
theorem zDh_ (D : za_) (R : RL h rb s p b) (hs : s.size ≤ 1000000) (hp : p ≤ s.size) {n : Nat} (hc : b = true ∨ s.size - p < n) :
  Gx.Wp (zqc_ k D (some ⟨rb, 0, none⟩) (n : Int) h) fun z => Chg (· = rb) h z.2 ∧ z.2.next = h.next ∧ RL z.2 rb s p true := by
 simp only [zqc_]
 refine Wp.jn fun j hj => .bnd rfl (.bnd (zLf_ R.g rfl) ?_)
 have bad : ∀ y, y = true → Gx.Wp (j (some ⟨rb, 0, none⟩) n y h) fun z => Chg (· = rb) h z.2 ∧ z.2.next = h.next ∧ RL z.2 rb s p true := by
  intro y hy
  rw [hj]
  refine .ifp hy (.bnd rfl ?_)
  exact Wp.st R.g (by simp) rfl fun H c n g => .of ⟨c, n, g, by show rb < H.next; rw [n]; exact R.lt⟩
 cases b with
 | true => exact .ifp rfl (bad true rfl)
 | false =>
  refine .ifn (by decide) (.bnd rfl (.bnd (zzb_ R.g rfl) (.bnd rfl (.bnd (zp_ R.g rfl) ?_))))
  rw [show IntKind.wrap .i64 ((s.size : Int) - (p : Int)) = ((s.size - p : Nat) : Int) by rw [Gx.w64 _ (by omega)]; omega]
  exact bad _ (by simp at hc; simp; omega)
theorem zww_ (D : za_) (R : RL h rb s p false) (hs : s.size ≤ 1000000) (hp : p ≤ s.size) {n : Nat} (c : n ≤ s.size - p) :
  Gx.Wp (zqc_ k D (some ⟨rb, 0, none⟩) (n : Int) h) fun z => Chg (· = rb) h z.2 ∧ z.2.next = h.next ∧ z.1 = ⟨⟨((bl s).drop p).take n⟩⟩ ∧ RL z.2 rb s (p + n) false := by
 simp only [zqc_]
 refine Wp.jn fun j hj => .bnd rfl (.bnd (zLf_ R.g rfl) (.ifn (by decide) (.bnd rfl (.bnd (zzb_ R.g rfl) (.bnd rfl (.bnd (zp_ R.g rfl) ?_))))))
 rw [show IntKind.wrap .i64 ((s.size : Int) - (p : Int)) = ((s.size - p : Nat) : Int) by rw [Gx.w64 _ (by omega)]; omega]
 rw [hj]
 refine .ifn (by simp; omega) (.bnd rfl (.bnd (zp_ R.g rfl) (.bnd rfl ?_)))
 rw [show IntKind.wrap .i64 ((p : Int) + (n : Int)) = ((p + n : Nat) : Int) by rw [Gx.w64 _ (by omega)]; omega]
 refine Wp.st R.g (by simp) rfl fun H c1 n1 g => ?_
 refine .bnd rfl (.bnd (zzb_ g rfl) (.bnd rfl (.bnd (zp_ g rfl) (.bnd rfl (.bnd (zp_ g rfl) ?_)))))
 rw [show IntKind.wrap .i64 (((p + n : Nat) : Int) - (n : Int)) = (p : Int) by rw [Gx.w64 _ (by omega)]; omega]
 refine .bnd (zFb_ (i := p) (j := p + n) rfl rfl (by omega) (by omega)) (.of ⟨c1, n1, ?_, g, by show rb < H.next; rw [n1]; exact R.lt⟩)
 rw [List.drop_take, show p + n - p = n by omega]
theorem zFm_ (D : za_) (hk : 2 ≤ k) (R : RL h rb s p true) (hs : s.size ≤ 1000000) (hp : p = s.size) {n : Nat} (hn : n ≤ 1000000) :
  Gx.Wp (zkc_ k D (some ⟨rb, 0, none⟩) (n : Int) h) fun z => Chg (· = rb) h z.2 ∧ z.2.next = h.next ∧ (∃ m : Nat, z.1 = (m : Int)) ∧ RL z.2 rb s p true := by
 simp only [zkc_]
 by_cases c : n < 15
 ·exact .ifp (by simp; omega) (.of ⟨Chg.refl _ _, rfl, ⟨n, rfl⟩, R⟩)
 ·refine .ifn (by simp; omega) ?_
  unfold zuf_
  obtain ⟨bot, eb⟩ := zq_ (fun _ _ _ => none) (ztb_ k D) (show 0 + 1 ≤ k by omega)
  rw [eb, zg_]; simp only [ztb_]
  refine .call (zGf_ D R hs (by omega)) fun r ⟨c1, n1, h1⟩ => ?_
  have e : (bl s)[p]? = none := List.getElem?_eq_none_iff.2 (by rw [zh_]; omega)
  rw [e] at h1
  obtain ⟨h1, R1⟩ := h1
  refine Wp.jn fun j hj => ?_
  rw [h1]
  refine .ifp (by decide) ?_
  rw [hj]
  exact .ifp rfl (.of ⟨c1, n1, ⟨n, Gx.w64 _ (by omega)⟩, R1⟩)
end
def zhz_ (rb : Nat) (H : AHeap) (acc : List Sq) (o : Option (List Sq × Nat)) (z : (Slc × Int × Bool) × AHeap) : Prop :=
 Chg (fun y => rb ≤ y) H z.2 ∧ match o with
  | some (qs, n) => ∃ sl, z.1 = (sl, (n : Int), true) ∧ AccW 3 encQ 200 (rb + 1) z.2 sl (acc ++ qs)
  | none => z.1.2.2 = false
section
variable {k rb : Nat} {s : ByteArray}
theorem atRb {rb : Nat} {h h' : AHeap} (c : Chg (· = rb) h h') : Chg (fun y => rb ≤ y) h h' := c.wk fun y _ e => by have e : y = rb := e; omega
theorem zBn_ {rb : Nat} {h h' : AHeap} (c : zc_ h h') : Chg (fun y => rb ≤ y) h h' := Chg.keeps c
theorem decQ (q : Sq) : decC [.s, .i .i64, .i .i64] (encQ q) = some (⟨⟨q.1⟩⟩, (q.2.1 : Int), (q.2.2 : Int)) := rfl
theorem atX {rb x : Nat} {h h' : AHeap} (c : Chg (· = x) h h') (hx : rb ≤ x) : Chg (fun y => rb ≤ y) h h' := c.wk fun y _ e => by have e : y = x := e; omega
theorem zfy_ (D : za_) (hk : s.size + 4 ≤ k) (hs : s.size ≤ 4000) (bot) : ∀ (d p long : Nat) (H : AHeap) (l : Slc) (acc : List Sq), p ≤ s.size → s.size - p ≤ d → long + 255 * (s.size - p) ≤ 1020000 → acc.length ≤ p →
  RL H rb s p false → AccW 3 encQ 200 (rb + 1) H l acc →
  Gx.Wp (zi_ bot (d + 1) (zBf_ k D) s l (long : Int) (some ⟨rb, 0, none⟩) H) (zhz_ rb H acc (zz_ (d + 1) ((bl s).drop p) long)) := by
 intro d
 induction d with
 | zero =>
  intro p long H l acc hp hd hM hacc R A
  rw [zg_]; simp only [zBf_]
  have e : (bl s)[p]? = none := List.getElem?_eq_none_iff.2 (by rw [zh_]; omega)
  have e2 : (bl s).drop p = [] := List.drop_of_length_le (by rw [zh_]; omega)
  rw [e2]
  refine .call (zGf_ D R (by omega) hp) fun r8 ⟨c8, n8, h8⟩ => ?_
  rw [e] at h8
  obtain ⟨h8, R8⟩ := h8
  rw [h8]
  refine .call (zFm_ (n := 0) D (by omega) R8 (by omega) (by omega) (by omega)) fun r9 ⟨c9, n9, ⟨m9, h9⟩, R9⟩ => ?_
  rw [h9]
  refine .call (zDh_ D R9 (by omega) (by omega) (.inl rfl)) fun r10 ⟨c10, n10, R10⟩ => ?_
  refine Wp.newE fun h11 e11 k11 n11 g11 => Wp.stL g11 rfl rfl rfl (by decide) fun h12 c12 n12 g12 => ?_
  have hR10 := R10.lt
  have R12 := (R10.keeps k11).chg c12 (by omega)
  exact .bnd (zzb_ g12 rfl) (.bnd rfl (.bnd (zLf_ R12.g rfl) (.ifp rfl (.of ⟨(((((atRb c8).trans (atRb c9)).trans (atRb c10)).trans (zBn_ k11)).trans (atX c12 (by omega))), rfl⟩))))
 | succ d ih =>
  intro p long H l acc hp hd hM hacc R A
  rw [zg_]; simp only [zBf_]
  have hRl := R.lt
  refine .call (zGf_ D R (by omega) hp) fun r8 ⟨c8, n8, h8⟩ => ?_
  cases hc : (bl s)[p]? with
  | none =>
   rw [hc] at h8
   obtain ⟨h8, R8⟩ := h8
   have ep : p = s.size := by have := List.getElem?_eq_none_iff.1 hc; rw [zh_] at this; omega
   have e2 : (bl s).drop p = [] := List.drop_of_length_le (by rw [zh_]; omega)
   rw [e2, h8]
   refine .call (zFm_ (n := 0) D (by omega) R8 (by omega) ep (by omega)) fun r9 ⟨c9, n9, ⟨m9, h9⟩, R9⟩ => ?_
   rw [h9]
   refine .call (zDh_ D R9 (by omega) (by omega) (.inl rfl)) fun r10 ⟨c10, n10, R10⟩ => ?_
   refine Wp.newE fun h11 e11 k11 n11 g11 => Wp.stL g11 rfl rfl rfl (by decide) fun h12 c12 n12 g12 => ?_
   have hR10 := R10.lt
   have R12 := (R10.keeps k11).chg c12 (by omega)
   exact .bnd (zzb_ g12 rfl) (.bnd rfl (.bnd (zLf_ R12.g rfl) (.ifp rfl (.of ⟨(((((atRb c8).trans (atRb c9)).trans (atRb c10)).trans (zBn_ k11)).trans (atX c12 (by omega))), rfl⟩))))
  | some c =>
   rw [hc] at h8
   obtain ⟨h8, R8⟩ := h8
   have hlt := zHv_ hc
   have hcl := c.toNat_lt
   rw [zKd_ hc, h8, show Int.fdiv (c.toNat : Int) 16 = ((c.toNat / 16 : Nat) : Int) by rw [Int.fdiv_eq_ediv_of_nonneg _ (by decide)]; omega]
   refine .call (zDp_ D (by omega) R8 (by omega) hlt (by omega)) fun r9 ⟨c9, n9, h9⟩ => ?_
   cases hn1 : numP (c.toNat / 16) ((bl s).drop (p + 1)) with
   | none =>
    rw [hn1] at h9
    obtain ⟨q, m, h9, hq, R9⟩ := h9
    rw [zsD_ hn1, h9]
    refine .call (zDh_ D R9 (by omega) hq (.inl rfl)) fun r10 ⟨c10, n10, R10⟩ => ?_
    refine Wp.newE fun h11 e11 k11 n11 g11 => Wp.stL g11 rfl rfl rfl (by decide) fun h12 c12 n12 g12 => ?_
    have hR10 := R10.lt
    have R12 := (R10.keeps k11).chg c12 (by omega)
    exact .bnd (zzb_ g12 rfl) (.bnd rfl (.bnd (zLf_ R12.g rfl) (.ifp rfl (.of ⟨(((((atRb c8).trans (atRb c9)).trans (atRb c10)).trans (zBn_ k11)).trans (atX c12 (by omega))), rfl⟩))))
   | some x =>
    obtain ⟨a, l1⟩ := x
    rw [hn1] at h9
    obtain ⟨h9, q, hq1, hq2, el1, R9⟩ := h9
    rw [h9]
    have ll1 : l1.length = s.size - q := by rw [el1, List.length_drop, zh_]
    obtain ⟨_, pr, epr, hpr⟩ := zKj_ hn1
    have lpr : pr.length = q - (p + 1) := by
     have := congrArg List.length epr
     rw [List.length_append, List.length_drop, zh_, ll1] at this
     omega
    by_cases ca : s.size - q < a
    ·rw [zmD_ hn1 (by omega)]
     refine .call (zDh_ D R9 (by omega) hq2 (.inr ca)) fun r10 ⟨c10, n10, R10⟩ => ?_
     refine Wp.newE fun h11 e11 k11 n11 g11 => Wp.stL g11 rfl rfl rfl (by decide) fun h12 c12 n12 g12 => ?_
     have hR10 := R10.lt
     have R12 := (R10.keeps k11).chg c12 (by omega)
     exact .bnd (zzb_ g12 rfl) (.bnd rfl (.bnd (zLf_ R12.g rfl) (.ifp rfl (.of ⟨(((((atRb c8).trans (atRb c9)).trans (atRb c10)).trans (zBn_ k11)).trans (atX c12 (by omega))), rfl⟩))))
    refine .call (zww_ D R9 (by omega) hq2 (n := a) (by omega)) fun r10 ⟨c10, n10, h10, R10⟩ => ?_
    rw [← el1] at h10
    refine Wp.newE fun h11 e11 k11 n11 g11 => ?_
    rw [h10]
    refine Wp.stL g11 rfl rfl rfl (by decide) fun h12 c12 n12 g12 => ?_
    have hR10 := R10.lt
    have R12 := (R10.keeps k11).chg c12 (by omega)
    have cH12 : Chg (fun y => rb ≤ y) H h12 := (((((atRb c8).trans (atRb c9)).trans (atRb c10)).trans (zBn_ k11)).trans (atX c12 (by omega)))
    have A12 : AccW 3 encQ 200 (rb + 1) h12 l acc := by
     have A0 := A.chg (c8.trans (c9.trans c10)) fun z hz e => by have := (A.lt z hz).2; have e : z.block = rb := e; omega
     exact (A0.keeps k11).chg c12 fun z hz e => by have := (A0.lt z hz).1; have e : z.block = r10.2.next := e; omega
    have lt1 : (l1.take a).length = a := by rw [List.length_take]; omega
    have ht : (if (1048577 : Int) < IntKind.wrap .i64 ((long : Int) + ((⟨⟨l1.take a⟩⟩ : ByteArray).size : Int)) then (1048577 : Int) else IntKind.wrap .i64 ((long : Int) + ((⟨⟨l1.take a⟩⟩ : ByteArray).size : Int))) = ((long + a : Nat) : Int) := by
     rw [zXb_, lt1, Gx.w64 _ (by omega), if_neg (by omega)]; omega
    refine .bnd (zzb_ g12 rfl) ?_
    simp only [ht]
    refine .bnd rfl (.bnd (zLf_ R12.g rfl) (.ifn (by decide) (.bnd rfl (.bnd (zp_ R12.g rfl) ?_))))
    by_cases ce : q + a = s.size
    ·-- the last one
     rw [zsC_ hn1 (by omega)]
     refine .ifp (by simp; omega) (.bnd (zA_ g12 rfl) (.bnd (decQ (l1.take a, 0, 0)) (Wp.newE fun h21 e21 k21 n21 g21 => ?_)))
     obtain ⟨s', h22, a2, A22, c22, d22⟩ := A12.push zii_ zTt_ (l1.take a, 0, 0) (bytes := 32) (by decide) (by omega) (by omega)
     rw [show AHeap.new h12 (.cells (encQ (l1.take a, 0, 0)) 200 true 0) = h21 from e21.symm] at a2
     refine .bnd (show Gx.rdS 3 _ h21 = some (encQ (l1.take a, 0, 0)) from by rw [e21]; exact zTg_ zii_ _ _) (.bnd a2 (.of ?_))
     have cz : Chg (fun y => rb ≤ y) H h22 := cH12.trans (c22.wk fun y _ ⟨z, hz, e⟩ => by have := (A12.lt z hz).2; omega)
     refine ⟨cz, ?_⟩
     have eb : (Go.bits .and .i64 (c.toNat : Int) 15 == 0) = decide (c.toNat % 16 = 0) := by
      rw [zcu_ ⟨c.toNat, hcl⟩]
      by_cases z : c.toNat % 16 = 0
      ·simp [z]
      ·simp [z]; omega
     by_cases cz : c.toNat % 16 = 0
     ·rw [if_pos cz]
      refine ⟨s', ?_, ?_⟩
      ·show (s', ((long + a : Nat) : Int), (Go.bits .and .i64 (c.toNat : Int) 15 == 0)) = _
       rw [eb, decide_eq_true cz]
      ·have : l1.take a = l1 := List.take_of_length_le (by omega)
       rw [this] at A22
       exact A22
     ·rw [if_neg cz]
      show (Go.bits .and .i64 (c.toNat : Int) 15 == 0) = false
      rw [eb, decide_eq_false cz]
    ·refine .ifn (by simp; omega) ?_
     have hcl1 : a < l1.length := by omega
     have edr : l1.drop a = (bl s).drop (q + a) := by rw [el1, List.drop_drop]
     obtain ⟨d0, hd0⟩ := zv_ (l := bl s) (i := q + a) (by rw [zh_]; omega)
     have d0l := d0.toNat_lt
     refine .call (zGf_ D R12 (by omega) (by omega)) fun r24 ⟨c24, n24, h24⟩ => ?_
     rw [hd0] at h24
     obtain ⟨h24, R24⟩ := h24
     rw [h24]
     have g24 := c24.got (by omega) (by omega) g12
     refine .call (zGf_ D R24 (by omega) (by omega)) fun r25 ⟨c25, n25, h25⟩ => ?_
     have g25 := c25.got (by omega) (by omega) g24
     cases hd1 : (bl s)[q + a + 1]? with
     | none =>
      rw [hd1] at h25
      obtain ⟨h25, R25⟩ := h25
      have eq1 : q + a + 1 = s.size := by have := List.getElem?_eq_none_iff.1 hd1; rw [zh_] at this; omega
      have hone : l1.drop a = [d0] := by rw [edr, zKd_ hd0, List.drop_of_length_le (by rw [zh_]; omega)]
      rw [zoD_ hn1 hcl1 hone, h25]
      refine Wp.st g25 (by simp) rfl fun h26 c26 n26 g26 => ?_
      have R26 := R25.chg c26 (by omega)
      rw [zcu_ ⟨c.toNat, hcl⟩]
      refine .call (zFm_ D (by omega) R26 (by omega) eq1 (by show c.toNat % 16 ≤ _; omega)) fun r27 ⟨c27, n27, ⟨m27, h27⟩, R27⟩ => ?_
      have g27 := c27.got (by omega) (by omega) g26
      refine Wp.st g27 (by simp) rfl fun h28 c28 n28 g28 => Wp.jn fun j36 h36 => ?_
      have R28 := R27.chg c28 (by omega)
      refine .bnd rfl (.bnd (zLf_ R28.g rfl) (.ifp rfl ?_))
      rw [h36]
      exact .ifp rfl (.of ⟨((((cH12.trans (atRb c24)).trans (atRb c25)).trans (atX c26 (by omega))).trans (atRb c27)).trans (atX c28 (by omega)), rfl⟩)
     | some d1 =>
      rw [hd1] at h25
      obtain ⟨h25, R25⟩ := h25
      have hlt1 := zHv_ hd1
      have d1l := d1.toNat_lt
      have htwo : l1.drop a = d0 :: d1 :: (bl s).drop (q + a + 1 + 1) := by rw [edr, zKd_ hd0, zKd_ hd1]
      rw [h25, zDz_]
      refine Wp.st g25 (by simp) rfl fun h26 c26 n26 g26 => ?_
      have R26 := R25.chg c26 (by omega)
      rw [zcu_ ⟨c.toNat, hcl⟩]
      refine .call (zDp_ D (by omega) R26 (by omega) (by omega) (n := c.toNat % 16) (by omega)) fun r27 ⟨c27, n27, h27⟩ => ?_
      have g27 := c27.got (by omega) (by omega) g26
      have cH27 := (((cH12.trans (atRb c24)).trans (atRb c25)).trans (atX (rb := rb) c26 (by omega))).trans (atRb c27)
      cases hn2 : numP (c.toNat % 16) ((bl s).drop (q + a + 1 + 1)) with
      | none =>
       rw [hn2] at h27
       obtain ⟨q', m, h27, hq', R27⟩ := h27
       rw [zjD_ hn1 hcl1 htwo hn2]
       refine Wp.st g27 (by simp) rfl fun h28 c28 n28 g28 => Wp.jn fun j36 h36 => ?_
       have R28 := R27.chg c28 (by omega)
       refine .bnd rfl (.bnd (zLf_ R28.g rfl) (.ifp rfl ?_))
       rw [h36]
       exact .ifp rfl (.of ⟨cH27.trans (atX c28 (by omega)), rfl⟩)
      | some x =>
       obtain ⟨b, l3⟩ := x
       rw [hn2] at h27
       obtain ⟨h27, q', hq3, hq4, el3, R27⟩ := h27
       have ll3 : l3.length = s.size - q' := by rw [el3, List.length_drop, zh_]
       obtain ⟨_, pr2, epr2, hpr2⟩ := zKj_ hn2
       have lpr2 : pr2.length = q' - (q + a + 1 + 1) := by
        have := congrArg List.length epr2
        rw [List.length_append, List.length_drop, zh_, ll3] at this
        omega
       rw [h27, show IntKind.wrap .i64 ((b : Int) + 4) = ((b + 4 : Nat) : Int) by rw [Gx.w64 _ (by omega)]; omega]
       refine Wp.st g27 (by simp) rfl fun h28 c28 n28 g28 => Wp.jn fun j36 h36 => ?_
       have R28 := R27.chg c28 (by omega)
       have cH28 := cH27.trans (atX (rb := rb) c28 (by omega))
       have bad : (d0.toNat + d1.toNat * 256 = 0 ∨ long + a < d0.toNat + d1.toNat * 256) → ∀ y, y = true → Gx.Wp (j36 s l ((long + a : Nat) : Int) (some ⟨rb, 0, none⟩) (some ⟨r10.2.next, 0, none⟩) y h28) (zhz_ rb H acc (zz_ (d + 1 + 1) (c :: (bl s).drop (p + 1)) long)) := fun hf y hy => by
        rw [h36, zID_ hn1 hcl1 htwo hn2 hf]
        exact .ifp hy (.of ⟨cH28, rfl⟩)
       refine .bnd rfl (.bnd (zLf_ R28.g rfl) (.ifn (by decide) (.bnd (zp_ g28 rfl) ?_)))
       by_cases cd0 : d0.toNat + d1.toNat * 256 = 0
       ·exact .ifp (by simp; omega) (bad (.inl cd0) _ rfl)
       refine .ifn (by simp; omega) (.bnd (zp_ g28 rfl) ?_)
       by_cases cd1 : long + a < d0.toNat + d1.toNat * 256
       ·exact bad (.inr cd1) _ (by simp; omega)
       rw [zjE_ hn1 hcl1 htwo hn2 (fun q => q.elim cd0 cd1), h36]
       refine .ifn (by simp; omega) (.bnd rfl (.bnd (zp_ g28 rfl) ?_))
       have ht2 : (if (1048577 : Int) < IntKind.wrap .i64 (((long + a : Nat) : Int) + ((b + 4 : Nat) : Int)) then (1048577 : Int) else IntKind.wrap .i64 (((long + a : Nat) : Int) + ((b + 4 : Nat) : Int))) = ((long + a + (b + 4) : Nat) : Int) := by
        rw [Gx.w64 _ (by omega), if_neg (by omega)]; omega
       simp only [ht2]
       obtain ⟨qq, eqq⟩ : ∃ qq : Sq, qq = (l1.take a, d0.toNat + d1.toNat * 256, b + 4) := ⟨_, rfl⟩
       have A28 : AccW 3 encQ 200 (rb + 1) h28 l acc := by
        have A1 := A12.chg ((c24.trans c25)) fun z hz e => by have := (A12.lt z hz).2; have e : z.block = rb := e; omega
        have A2 := A1.chg c26 fun z hz e => by have := A.lt z hz; have := c8.nx; have := c9.nx; have := c10.nx; have e : z.block = r10.2.next := e; omega
        have A3 := A2.chg c27 fun z hz e => by have := (A12.lt z hz).2; have e : z.block = rb := e; omega
        exact A3.chg c28 fun z hz e => by have := A.lt z hz; have := c8.nx; have := c9.nx; have := c10.nx; have e : z.block = r10.2.next := e; omega
       obtain ⟨s', h44, a2, A44, c44, d44⟩ := A28.push zii_ zTt_ qq (bytes := 32) (by decide) (by omega) (by omega)
       have ec : encQ qq = [.string ⟨⟨l1.take a⟩⟩, .int .i64 ((d0.toNat + d1.toNat * 256 : Nat) : Int), .int .i64 ((b + 4 : Nat) : Int)] := by rw [eqq]; rfl
       refine .bnd rfl (.bnd (show ldA 3 ⟨r10.2.next, 0, none⟩ h28 = some (encQ qq) from by rw [ec]; exact zA_ g28 rfl) (.bnd (decQ qq) (Wp.newE fun h43 e43 k43 n43 g43 => ?_)))
       rw [show AHeap.new h28 (.cells (encQ qq) 200 true 0) = h43 from e43.symm] at a2
       refine .bnd (show Gx.rdS 3 _ h43 = some (encQ qq) from by rw [e43]; exact zTg_ zii_ _ _) (.bnd a2 ?_)
       have cH44 : Chg (fun y => rb ≤ y) H h44 := cH28.trans (c44.wk fun y _ ⟨z, hz, e⟩ => by have := (A28.lt z hz).2; omega)
       have R44 := R28.chg c44 fun ⟨z, hz, e⟩ => by have := (A28.lt z hz).2; omega
       have lq : (acc ++ [qq]).length = acc.length + 1 := by simp
       refine .mono (ih q' (long + a + (b + 4)) h44 s' (acc ++ [qq]) hq4 (by omega) (by omega) (by omega) R44 A44) fun z ⟨w1, w2⟩ => ⟨cH44.trans w1, ?_⟩
       rw [el3]
       cases hp : zz_ (d + 1) ((bl s).drop q') (long + a + (b + 4)) with
       | none => rw [hp] at w2; exact w2
       | some x =>
        obtain ⟨qs, n⟩ := x
        rw [hp] at w2
        obtain ⟨sl, w3, w4⟩ := w2
        refine ⟨sl, w3, ?_⟩
        rw [List.append_assoc] at w4
        rw [← eqq]
        exact w4
end
section
variable {k : Nat} {s : ByteArray} {h : AHeap}
theorem zYx_ (D : za_) (hk : s.size + 4 ≤ k) (hs : s.size ≤ 4000) :
  Gx.Wp (zPl_ k D s h) fun z => zc_ h z.2 ∧ match unz (bl s) with
   | some (qs, n) => ∃ sl, z.1 = (sl, (n : Int), true) ∧ AccW 3 encQ 200 (h.next + 1) z.2 sl qs
   | none => z.1.2.2 = false := by
 simp only [zPl_]
 refine Wp.newE fun h1 e1 k1 n1 g1 => ?_
 unfold zSp_
 obtain ⟨bot, eb⟩ := zq_ (fun _ _ _ _ _ => none) (zBf_ k D) (show s.size + 1 ≤ k by omega)
 rw [eb]
 have R : RL h1 h.next s 0 false := ⟨g1, by omega⟩
 refine .mono (zfy_ D hk hs bot s.size 0 0 h1 ⟨none, 0, 0⟩ [] (by omega) (by omega) (by omega) (by simp) R (AccW.nil _ _ _ _ _)) fun z ⟨w1, w2⟩ => ⟨k1.keepsS w1 fun y hy => hy, ?_⟩
 rw [List.drop_zero] at w2
 unfold unz
 rw [zh_]
 cases hp : zz_ (s.size + 1) (bl s) 0 with
 | none => rw [hp] at w2; exact w2
 | some x =>
  obtain ⟨qs, n⟩ := x
  rw [hp] at w2
  exact w2
end
def filB (out : List UInt8) (r : Nat) : ABlk := .cells ((out ++ List.replicate r 0).map encB) 5 true 0
section
variable {ob r : Nat} {H : AHeap} {out : List UInt8}
theorem zlD_ {h : AHeap} {b o n : Nat} {c : List Value} {e : TypeId} {r : Bool} {fz : Nat} (hb : h.get b = some (.cells c e r fz)) (hle : o + n ≤ c.length) : h.rdL b o n = some ((c.drop o).take n) := by
 cases n with
 | zero => simp [AHeap.rdL]
 | succ n => simp only [AHeap.rdL, hb]; rw [if_pos hle]
theorem zJC_ (l : List UInt8) : zI_ (l.map encB) = true := zpm_ (fun _ => rfl) l
theorem zYt_ (g : H.get ob = some (filB out r)) {ws : List UInt8} (hw : ws.length ≤ r) {d : Slc} {a : Addr} (ha : d.a = some a) (hab : a.block = ob) (hao : ws ≠ [] → a.off = out.length) {n : Nat} {new : List Value} (hn : new.take (n * 1) = ws.map encB) :
  ∃ H', zNb_ 1 H d n new = some H' ∧ Chg (· = ob) H H' ∧ H'.next = H.next ∧ H'.get ob = some (filB (out ++ ws) (r - ws.length)) := by
 simp only [zNb_, ha, hn, hab]
 cases ws with
 | nil => exact ⟨H, rfl, Chg.refl _ _, rfl, by simpa using g⟩
 | cons x xs =>
  rw [hao (by simp)]
  obtain ⟨ws, ew⟩ : ∃ ws, ws = x :: xs := ⟨_, rfl⟩
  rw [← ew] at hw hn ⊢
  have hne : ws.map encB ≠ [] := by rw [ew]; simp
  have e : H.wrL ob out.length (ws.map encB) = some (H.set ob (.cells (zx_ ((out ++ List.replicate r 0).map encB) out.length (ws.map encB)) 5 true 0)) := by
   cases hz : ws.map encB with
   | nil => exact absurd hz hne
   | cons v t =>
    have hl : (v :: t).length = ws.length := by rw [← hz]; simp
    simp only [AHeap.wrL, g, filB]
    rw [if_pos ⟨by rw [hl]; simp; omega, by simp, by rw [← hz]; exact zJC_ ws⟩]
  rw [e]
  refine ⟨_, rfl, Chg.set (.inr rfl), rfl, ?_⟩
  simp only [zmb_, filB, zx_]
  congr 2
  rw [← List.map_take, ← List.map_drop, List.length_map, ← List.map_append, ← List.map_append]
  congr 1
  rw [List.take_left, List.drop_append, List.drop_of_length_le (by omega)]
  simp
end
theorem zmu_ {b N lo hi : Nat} (h1 : lo ≤ hi) (h2 : hi ≤ N) (h3 : lo < N) : Gx.subL 1 ⟨some ⟨b, 0, some 0⟩, N, N⟩ (some (lo : Int)) (some (hi : Int)) none = some ⟨some ⟨b, lo, some 0⟩, hi - lo, N - lo⟩ := by
 have e1 : ((hi : Int) - lo).toNat = hi - lo := by omega
 have e2 : ((N : Int) - lo).toNat = N - lo := by omega
 have e3 : ¬ ((N : Int) = (lo : Int)) := by omega
 simp only [Gx.subL, Option.getD_some, Option.getD_none, e1, e2]
 rw [if_pos (by omega), if_pos (show spOk (some 0) 1 = true from rfl), if_neg e3]
 simp
section
variable {k ob N : Nat} {D : za_}
theorem zUB_ {Q : (ByteArray × Int) × AHeap → Prop} {j30 : Slc → Int → Slc → Int → Int → AHeap → Option ((ByteArray × Int) × AHeap)} {xb : Nat} {q : Sq} (hxo : xb ≠ ob) (y45 : Slc) (y46 y47 : Int) (hN : N ≤ 1048576) {hs : AHeap} (bot) :
  ∀ (f left : Nat) (out : List UInt8) (H : AHeap), left < f → (left = 0 ∨ 0 < q.2.1 ∧ q.2.1 ≤ out.length) → out.length + left ≤ N → H.get ob = some (filB out (N - out.length)) → H.get xb = some (.cells (encQ q) 200 true 0) → Chg (· = ob) hs H → xb < H.next →
  (∀ H', Chg (· = ob) hs H' → H'.get ob = some (filB (repP q.2.1 left out) (N - (out.length + left))) → Gx.Wp (j30 ⟨some ⟨ob, 0, some 0⟩, N, N⟩ ((out.length + left : Nat) : Int) y45 y46 y47 H') Q) →
  Gx.Wp (zi_ bot f (zGg_ k D j30) ⟨some ⟨ob, 0, some 0⟩, N, N⟩ (out.length : Int) (some ⟨xb, 0, none⟩) (left : Int) y45 y46 y47 H) Q := by
 intro f
 induction f with
 | zero => intro left out H h1; omega
 | succ f ih =>
  intro left out H h1 h2 h3 g gx cc hx J
  rw [zg_]; simp only [zGg_]
  by_cases c : left = 0
  ·subst c
   exact .ifn (by simp) (J H cc g)
  ·obtain ⟨hd, h2⟩ := h2.resolve_left c
   refine .ifp (by simp; omega) (.bnd rfl (.bnd (zp_ gx rfl) ?_))
   obtain ⟨m, em⟩ : ∃ m, m = min left q.2.1 := ⟨_, rfl⟩
   have e1 : (if (q.2.1 : Int) < (left : Int) then (q.2.1 : Int) else (left : Int)) = (m : Int) := by
    by_cases z : q.2.1 < left
    ·rw [if_pos (by omega)]; omega
    ·rw [if_neg (by omega)]; omega
   have e2 : IntKind.wrap .i64 ((out.length : Int) + (m : Int)) = ((out.length + m : Nat) : Int) := by rw [Gx.w64 _ (by omega)]; omega
   have e3 : IntKind.wrap .i64 ((out.length : Int) - (q.2.1 : Int)) = ((out.length - q.2.1 : Nat) : Int) := by rw [Gx.w64 _ (by omega)]; omega
   simp only [e1, e2]
   have s1 : Gx.subL 1 ⟨some ⟨ob, 0, some 0⟩, N, N⟩ (some (out.length : Int)) (some ((out.length + m : Nat) : Int)) none = some ⟨some ⟨ob, out.length, some 0⟩, m, N - out.length⟩ := by
    rw [zmu_ (by omega) (by omega) (by omega), show out.length + m - out.length = m by omega]
   have s2 : Gx.subL 1 ⟨some ⟨ob, 0, some 0⟩, N, N⟩ (some ((out.length - q.2.1 : Nat) : Int)) (some (out.length : Int)) none = some ⟨some ⟨ob, out.length - q.2.1, some 0⟩, q.2.1, N - (out.length - q.2.1)⟩ := by
    rw [zmu_ (by omega) (by omega) (by omega), show out.length - (out.length - q.2.1) = q.2.1 by omega]
   refine .bnd s1 (.bnd rfl (.bnd (zp_ gx rfl) ?_))
   rw [e3]
   have rd : Gx.rdS 1 ⟨some ⟨ob, out.length - q.2.1, some 0⟩, q.2.1, N - (out.length - q.2.1)⟩ H = some (((out.drop (out.length - q.2.1)).take q.2.1).map encB) := by
    simp only [Gx.rdS, Nat.mul_one]
    rw [zlD_ g (by simp; omega)]
    congr 1
    rw [← List.map_drop, ← List.map_take, List.drop_append_of_le_length (by omega), List.take_append_of_le_length (by simp; omega)]
   refine .bnd s2 (.bnd rd ?_)
   obtain ⟨ws, ews⟩ : ∃ ws, ws = (out.drop (out.length - q.2.1)).take m := ⟨_, rfl⟩
   have lws : ws.length = m := by rw [ews]; simp; omega
   have emin : min q.2.1 m = m := by omega
   show Gx.Wp ((zNb_ 1 H _ (min q.2.1 m) _).bind _) Q
   rw [emin]
   obtain ⟨H', cp, c', n', g'⟩ := zYt_ (d := ⟨some ⟨ob, out.length, some 0⟩, m, N - out.length⟩) (n := m) (new := ((out.drop (out.length - q.2.1)).take q.2.1).map encB) g (ws := ws) (by omega) rfl rfl (fun _ => rfl) (by
    rw [Nat.mul_one, ← List.map_take, List.take_take, ews, show min m q.2.1 = m by omega])
   refine .bnd cp ?_
   rw [e2, show IntKind.wrap .i64 ((left : Int) - (m : Int)) = ((left - m : Nat) : Int) by rw [Gx.w64 _ (by omega)]; omega]
   have lo : (out ++ ws).length = out.length + m := by simp [lws]
   have er : repP q.2.1 left out = repP q.2.1 (left - m) (out ++ ws) := by
    rw [show left = m + (left - m) by omega, zCq_, zxu_ q.2.1 m out (by omega) h2, ← ews, show m + (left - m) - m = left - m by omega]
   rw [← lo]
   refine ih (left - m) (out ++ ws) H' (by omega) (.inr ⟨hd, by omega⟩) (by omega) (by rw [g', lo, lws]; congr 2; omega) (c'.got hx hxo gx) (cc.trans c') (by omega) fun H'' c'' g'' => ?_
   have ea : (out ++ ws).length + (left - m) = out.length + left := by omega
   rw [ea] at g'' ⊢
   exact J H'' c'' (by rw [er]; exact g'')
theorem zaz_ {b at' : Nat} (h1 : at' ≤ N) : ∃ a, Gx.subL 1 ⟨some ⟨b, 0, some 0⟩, N, N⟩ (some (at' : Int)) none none = some ⟨some a, N - at', N - at'⟩ ∧ a.block = b ∧ (at' < N → a.off = at') := by
 have e2 : ((N : Int) - at').toNat = N - at' := by omega
 refine ⟨⟨b, if (N : Int) = (at' : Int) then 0 else 0 + (at' : Int).toNat * 1, some 0⟩, ?_, rfl, fun h => ?_⟩
 ·simp only [Gx.subL, Option.getD_some, Option.getD_none, e2]
  rw [if_pos (by omega), if_pos (show spOk (some 0) 1 = true from rfl)]
  simp
 ·show (if (N : Int) = (at' : Int) then 0 else 0 + (at' : Int).toNat * 1) = at'
  rw [if_neg (by omega)]; omega
theorem zpB_ {j15 : Slc → AHeap → Option ((ByteArray × Int) × AHeap)} (hj : j15 = fun (out13 : Slc) (h14 : AHeap) => (zeb_ h14 out13).bind fun s16 => some ((s16, 0), h14)) (hk : 1048578 ≤ k) (hN : N ≤ 1048576) {h0 : AHeap} {y : Slc} {qs : List Sq} (hob : h0.next ≤ ob) (hy : ∀ a, y.a = some a → a.block ≠ ob) (bot) :
  ∀ (d i : Nat) (out : List UInt8) (H : AHeap), i + d = qs.length → out.length + totQ (qs.drop i) = N → okQ (qs.drop i) out.length → H.get ob = some (filB out (N - out.length)) → RowW 3 encQ H y qs → ob < H.next → zc_ h0 H → qs.length ≤ 100000 →
  Gx.Wp (zi_ bot (d + 1) (zlf_ k D j15) ⟨some ⟨ob, 0, some 0⟩, N, N⟩ (out.length : Int) y (y.len : Int) (i : Int) H) fun z => z.1 = (⟨⟨zId_ (qs.drop i) out⟩⟩, 0) ∧ zc_ h0 z.2 := by
 intro d
 induction d with
 | zero =>
  intro i out H hd ht hq g R ho kp hl
  rw [zg_]; simp only [zlf_]
  have yl := R.len
  rw [List.drop_of_length_le (by omega)] at ht ⊢
  refine .ifn (by rw [yl]; simp; omega) ?_
  rw [hj]
  simp only [totQ, Nat.add_zero] at ht
  rw [filB, ht, Nat.sub_self, List.replicate_zero, List.append_nil] at g
  rw [← ht]
  exact .bnd (zud_ g) (.of ⟨rfl, kp⟩)
 | succ d ih =>
  intro i out H hd ht hq g R ho kp hl
  rw [zg_]; simp only [zlf_]
  have yl := R.len
  obtain ⟨q, hq0⟩ := zv_ (l := qs) (i := i) (by omega)
  rw [zKd_ hq0] at ht hq ⊢
  obtain ⟨hq1, hq2⟩ := hq
  simp only [totQ] at ht
  obtain ⟨a, b1, b2, _⟩ := R.ld zii_ (by decide) hq0
  refine .ifp (by rw [yl]; simp; omega) (Wp.jn fun j30 h30 => .bnd b1 (.bnd b2 (.bnd (decQ q) (Wp.newE fun h34 e34 k34 n34 g34 => Wp.stL g34 rfl rfl rfl (by decide) fun h35 c35 n35 g35 => ?_))))
  have k35 : zc_ H h35 := k34.keepsS c35 fun y hy => by subst hy; omega
  have go35 := k35.got ho g
  obtain ⟨aa, f1, f2, f3⟩ := zaz_ (N := N) (b := ob) (at' := out.length) (by omega)
  have hsz : (⟨⟨q.1⟩⟩ : ByteArray).size = q.1.length := zXb_ _
  have emin : min (⟨⟨q.1⟩⟩ : ByteArray).size (N - out.length) = q.1.length := by rw [hsz]; omega
  refine .bnd f1 (.bnd (zzb_ g35 rfl) ?_)
  show Gx.Wp ((zNb_ 1 h35 _ (min (⟨⟨q.1⟩⟩ : ByteArray).size (N - out.length)) _).bind _) _
  rw [emin]
  obtain ⟨h38, cp, c38, n38, g38⟩ := zYt_ (d := ⟨some aa, N - out.length, N - out.length⟩) (n := q.1.length) (new := zM_ ⟨⟨q.1⟩⟩) go35 (ws := q.1) (by omega) rfl f2 (fun hne => f3 (by have := List.length_pos_iff.2 hne; omega)) (by
   rw [Nat.mul_one, zJk_, zre_, List.take_of_length_le (by simp)])
  refine .bnd cp ?_
  have gx38 := c38.got (by omega) (by omega) g35
  rw [show IntKind.wrap .i64 ((out.length : Int) + ((q.1.length : Nat) : Int)) = (((out ++ q.1).length : Nat) : Int) by rw [List.length_append, Gx.w64 _ (by omega)]; omega]
  refine .bnd (zp_ gx38 rfl) ?_
  have lo : (out ++ q.1).length = out.length + q.1.length := List.length_append
  unfold zKn_
  obtain ⟨bot2, eb2⟩ := zq_ (fun _ _ _ _ _ _ _ _ => none) (zGg_ k D j30) (show q.2.2 + 1 ≤ k by omega)
  rw [eb2]
  have kH38 : zc_ h0 h38 := (kp.trans k35).keepsS c38 fun z hz => by have hz : z = ob := hz; omega
  refine zUB_ (hs := h38) (q := q) (by omega) y (y.len : Int) (i : Int) hN bot2 (q.2.2 + 1) q.2.2 (out ++ q.1) h38 (by omega) (hq1.imp id fun w => ⟨w.1, by rw [lo]; omega⟩) (by omega) (by rw [g38, lo]; congr 2; omega) gx38 (Chg.refl _ _) (by omega) fun H' c' g' => ?_
  rw [h30]
  dsimp only
  rw [Gx.w1 (by omega)]
  simp only [zId_]
  have lr : (repP q.2.1 q.2.2 (out ++ q.1)).length = (out ++ q.1).length + q.2.2 := zzq_ _ _ _
  rw [← lr] at g' ⊢
  have nz := c'.nx
  refine ih (i + 1) (repP q.2.1 q.2.2 (out ++ q.1)) H' (by omega) (by omega) (by rw [lr, lo]; exact hq2) g' ?_ (by omega) (kH38.keepsS c' fun z hz => by have hz : z = ob := hz; omega) hl
  exact ((R.keeps k35).chg c38 fun z hz e => hy z hz e).chg c' fun z hz e => hy z hz e
end
theorem zzw_ {k : Nat} {s : ByteArray} {h : AHeap} (D : za_) (hk : 1048578 ≤ k) (hs : s.size ≤ 4000) (long : Int) :
  Gx.Wp (zHk_ k D s long h) fun z => zc_ h z.2 ∧ match unpB (bl s) long with
   | some r => z.1 = (⟨⟨r⟩⟩, 0)
   | none => z.1.1 = ⟨#[]⟩ ∧ z.1.2 ≠ 0 := by
 simp only [zHk_]
 refine Wp.jn fun j5 h5 => ?_
 have j5t : ∀ y, y = true → (long < 0 ∨ long > 1048576) → Gx.Wp (j5 s long y h) fun z => zc_ h z.2 ∧ match unpB (bl s) long with
   | some r => z.1 = (⟨⟨r⟩⟩, 0)
   | none => z.1.1 = ⟨#[]⟩ ∧ z.1.2 ≠ 0 := by
  intro y hy hl
  rw [h5]
  refine .ifp hy (.of ⟨Chg.refl _ _, ?_⟩)
  have : unpB (bl s) long = none := by
   cases hu : unpB (bl s) long with
   | none => rfl
   | some r => have := zpq_ hu; omega
  rw [this]
  exact ⟨rfl, show (1 : Int) ≠ 0 by decide⟩
 by_cases c1 : long < 0
 ·exact .ifp (by simpa using c1) (j5t true rfl (.inl c1))
 refine .ifn (by simpa using c1) ?_
 by_cases c2 : long > 1048576
 ·exact j5t _ (by simpa using c2) (.inr c2)
 rw [h5]
 refine .ifn (by simpa using c2) (.call (zYx_ D (by omega) hs) fun r6 ⟨k6, h6⟩ => Wp.jn fun j11 h11 => ?_)
 have j11t : ∀ l y, y = true → unpB (bl s) long = none → Gx.Wp (j11 long l y r6.2) fun z => zc_ h z.2 ∧ match unpB (bl s) long with
   | some r => z.1 = (⟨⟨r⟩⟩, 0)
   | none => z.1.1 = ⟨#[]⟩ ∧ z.1.2 ≠ 0 := by
  intro l y hy hn
  rw [h11, hn]
  exact .ifp hy (.of ⟨k6, rfl, show (120 : Int) ≠ 0 by decide⟩)
 cases hu : unz (bl s) with
 | none =>
  rw [hu] at h6
  exact .ifp (by rw [h6]; rfl) (j11t _ _ rfl (by unfold unpB; rw [hu]))
 | some x =>
  obtain ⟨qs, n⟩ := x
  rw [hu] at h6
  obtain ⟨sl, h6, A6⟩ := h6
  rw [h6]
  refine .ifn (by simp) ?_
  by_cases c3 : long = (n : Int)
  rotate_left
  ·exact j11t _ _ (by simp; omega) (by unfold unpB; rw [hu]; simp only []; rw [if_neg (fun q => c3 q.1)])
  subst c3
  have eu : unpB (bl s) (n : Int) = some (zId_ qs []) := by unfold unpB; rw [hu]; simp only []; rw [if_pos ⟨trivial, by omega⟩]
  rw [eu, h11]
  refine .ifn (by simp) (.ifp (by omega) (Wp.newE fun h12 e12 k12 n12 g12 => Wp.jn fun j15 h15 => ?_))
  obtain ⟨pt, pk⟩ := zgo_ (qs := qs) (n := n) hu
  have pl := (zVq_ (qs := qs) (n := n) hu).2
  unfold zuo_
  have A12 := A6.keeps k12
  have hql : qs.length ≤ 4000 := Nat.le_trans (zJs_ (qs := qs) (n := n) hu) (by rw [zh_]; exact hs)
  obtain ⟨bot, eb⟩ := zq_ (fun _ _ _ _ _ _ => none) (zlf_ k D j15) (show qs.length + 1 ≤ k by omega)
  rw [eb, Int.toNat_natCast]
  have g0 : h12.get r6.2.next = some (filB [] (n - 0)) := by
   rw [g12, filB]
   simp [zOp_]
  refine .mono (zpB_ (N := n) h15 hk (by omega) (h0 := r6.2) (Nat.le_refl _) (fun a ha e => by have := (A6.lt a ha).1; omega) bot qs.length 0 [] h12 (by omega) (by simp; omega) (by simpa using pk) g0 (A12.row zii_) (by omega) k12 (by omega)) fun z ⟨w1, w2⟩ => ⟨k6.trans w2, ?_⟩
  rw [w1]; simp
section
variable {k p : Nat} {h : AHeap} {s : ByteArray}
end
theorem zJA_ {base : Nat} {h : AHeap} {s : Slc} {xs : List UInt8} {e : TypeId} (A : Acc encB e base h s xs) : zeb_ h s = some ⟨⟨xs⟩⟩ := by
 rcases A.st with ⟨rfl, rfl⟩ | ⟨b, g⟩
 ·rfl
 ·rw [g.s]; exact zud_ g.2
section
variable {k : Nat} {D : za_} {h0 : AHeap} {l : Slc} {qs : List Sq}
end
def vI (n : Nat) : Value := .int .i64 (n : Int)
theorem zqv_ {l : List UInt8} {i : Nat} (h : i + 4 ≤ l.length) : (four l i).length = 4 := by simp [four]; omega
theorem ztC_ {l : List UInt8} {i : Nat} {a b c d : UInt8} (ha : l[i]? = some a) (hb : l[i + 1]? = some b) (hc : l[i + 2]? = some c) (hd : l[i + 3]? = some d) : four l i = [a, b, c, d] := by
 unfold four
 rw [zKd_ ha, zKd_ hb, zKd_ hc, zKd_ hd]; rfl
section
variable {k pb : Nat} {h : AHeap} {s : ByteArray} {m : Option Nat}
theorem zPs_ (D : za_) (g : h.get pb = some (.cells [.string s, .map m] 180 true 0)) (hl : pb < h.next) {i : Nat} (hi : i + 4 ≤ s.size) (hs : s.size ≤ 1048576) :
  Gx.Wp (zCe_ k D (some ⟨pb, 0, none⟩) (i : Int) h) fun z => Value.agg ⟨[.int .u8 z.1.1, .int .u8 z.1.2.1, .int .u8 z.1.2.2.1, .int .u8 z.1.2.2.2]⟩ = keyV (four (bl s) i) ∧ zc_ h z.2 := by
 simp only [zCe_]
 obtain ⟨a, ha⟩ := zv_ (l := bl s) (i := i) (by rw [zh_]; omega)
 obtain ⟨b, hb⟩ := zv_ (l := bl s) (i := i + 1) (by rw [zh_]; omega)
 obtain ⟨c, hc⟩ := zv_ (l := bl s) (i := i + 2) (by rw [zh_]; omega)
 obtain ⟨d, hd⟩ := zv_ (l := bl s) (i := i + 3) (by rw [zh_]; omega)
 refine Wp.newE fun h1 e1 k1 n1 g1 => ?_
 have g' := k1.got hl g
 rw [Gx.w1 (by omega), show IntKind.wrap .i64 ((i : Int) + 2) = ((i + 2 : Nat) : Int) by rw [Gx.w64 _ (by omega)]; omega, show IntKind.wrap .i64 ((i : Int) + 3) = ((i + 3 : Nat) : Int) by rw [Gx.w64 _ (by omega)]; omega]
 refine .bnd rfl (.bnd (zzb_ g' rfl) (.bnd (zof_ ha) (.bnd rfl (.bnd (zzb_ g' rfl) (.bnd (zof_ hb) (.bnd rfl (.bnd (zzb_ g' rfl) (.bnd (zof_ hc) (.bnd rfl (.bnd (zzb_ g' rfl) (.bnd (zof_ hd) ?_)))))))))))
 refine Wp.stL g1 rfl rfl rfl (by decide) fun h14 c14 n14 g14 => .bnd (zA_ g14 rfl) (.bnd (show decC [.i .u8, .i .u8, .i .u8, .i .u8] _ = some ((a.toNat : Int), (b.toNat : Int), (c.toNat : Int), (d.toNat : Int)) from rfl) (.of ⟨?_, k1.keepsS c14 fun y hy => by subst hy; omega⟩))
 rw [ztC_ ha hb hc hd]; rfl
theorem zPq_ (D : za_) (g : h.get pb = some (.cells [.string s, .map m] 180 true 0)) {f i : Nat} (hf : f < i) (hi : i ≤ s.size) (hs : s.size ≤ 1048576) (hk : s.size + 2 ≤ k) :
  zTd_ k D (some ⟨pb, 0, none⟩) (f : Int) (i : Int) h = some (((lcp ((bl s).drop f) ((bl s).drop i) : Nat) : Int), h) := by
 simp only [zTd_]
 refine jn ?_
 obtain ⟨j3, h3⟩ : ∃ j3, j3 = (fun (n1 : Int) (h2 : AHeap) => some (n1, h2)) := ⟨_, rfl⟩
 rw [← h3]
 unfold zBi_
 obtain ⟨bot, eb⟩ := zq_ (fun _ _ _ _ _ => none) (zFc_ k D j3) (show (s.size - i) + 1 ≤ k by omega)
 rw [eb]
 have loop : ∀ d n : Nat, i + n + d = s.size → zi_ bot (d + 1) (zFc_ k D j3) (some ⟨pb, 0, none⟩) (f : Int) (i : Int) (n : Int) h = some (((n + lcp ((bl s).drop (f + n)) ((bl s).drop (i + n)) : Nat) : Int), h) := fun d => by
  induction d with
  | zero =>
   intro n hd
   rw [zg_]; simp only [zFc_]
   refine jn ?_
   have e2 : (bl s).drop (i + n) = [] := List.drop_of_length_le (by rw [zh_]; omega)
   have e3 : lcp ((bl s).drop (f + n)) [] = 0 := by cases (bl s).drop (f + n) <;> rfl
   rw [show IntKind.wrap .i64 ((i : Int) + (n : Int)) = ((i + n : Nat) : Int) by rw [Gx.w64 _ (by omega)]; omega]
   refine bnd rfl (bnd (zzb_ g rfl) (ifn (by simp; omega) (ifn (by decide) ?_)))
   rw [h3, e2, e3]; rfl
  | succ d ih =>
   intro n hd
   rw [zg_]; simp only [zFc_]
   refine jn ?_
   obtain ⟨a, ha⟩ := zv_ (l := bl s) (i := f + n) (by rw [zh_]; omega)
   obtain ⟨b, hb⟩ := zv_ (l := bl s) (i := i + n) (by rw [zh_]; omega)
   rw [show IntKind.wrap .i64 ((i : Int) + (n : Int)) = ((i + n : Nat) : Int) by rw [Gx.w64 _ (by omega)]; omega, show IntKind.wrap .i64 ((f : Int) + (n : Int)) = ((f + n : Nat) : Int) by rw [Gx.w64 _ (by omega)]; omega]
   refine bnd rfl (bnd (zzb_ g rfl) (ifp (by simp; omega) (bnd rfl (bnd (zzb_ g rfl) (bnd (zof_ ha) (bnd rfl (bnd (zzb_ g rfl) (bnd (zof_ hb) ?_))))))))
   rw [zKd_ ha, zKd_ hb]
   unfold lcp
   by_cases c : a = b
   ·rw [if_pos c]
    refine ifp (by rw [c]; simp) ?_
    rw [Gx.w1 (by omega), ih (n + 1) (by omega)]
    congr 3
    rw [show f + (n + 1) = f + n + 1 by omega, show i + (n + 1) = i + n + 1 by omega]
    omega
   ·rw [if_neg c]
    refine ifn ?_ ?_
    ·have : ¬ a.toNat = b.toNat := fun q => c (UInt8.toNat_inj.1 q)
     simp; omega
    ·rw [h3]; rfl
 have := loop (s.size - i) 0 (by omega)
 rw [Nat.add_zero, Nat.add_zero, Nat.zero_add] at this
 exact this
theorem zTy_ (D : za_) {mb : Nat} (g : h.get pb = some (.cells [.string s, .map (some mb)] 180 true 0)) (hl : pb < h.next) (hm : mb < h.next) {es : List Fr} (M : zsc_ keyV vI h mb es) (k4 : ∀ e ∈ es, e.1.length = 4) {i : Nat} (ha : zGk_ i es) (hi : i + 4 ≤ s.size) (hs : s.size ≤ 1048576) (hk : s.size + 100 ≤ k) :
  Gx.Wp (zWf_ k D (some ⟨pb, 0, none⟩) (i : Int) h) fun z => z.1 = (((znb_ (bl s) i es).1 : Int), ((znb_ (bl s) i es).2 : Int)) ∧ zc_ h z.2 := by
 simp only [zWf_]
 refine Wp.jn fun j6 h6 => ?_
 unfold zYi_
 obtain ⟨n0, en0⟩ : ∃ n0, n0 = min 64 i := ⟨_, rfl⟩
 have en : (if (i : Int) < 64 then (i : Int) else 64) = (n0 : Int) := by
  by_cases z : i < 64
  ·rw [if_pos (by omega)]; omega
  ·rw [if_neg (by omega)]; omega
 obtain ⟨bot, eb⟩ := zq_ (fun _ _ _ _ _ _ => none) (zPc_ k D j6) (show n0 + 1 ≤ k by omega)
 rw [eb]
 have fin : Gx.Wp (j6 (some ⟨pb, 0, none⟩) (i : Int) ((ztc_ (bl s) i n0).1 : Int) ((ztc_ (bl s) i n0).2 : Int) h) fun z => z.1 = (((znb_ (bl s) i es).1 : Int), ((znb_ (bl s) i es).2 : Int)) ∧ zc_ h z.2 := by
  rw [h6]
  refine .call (zPs_ D g hl hi hs) fun r7 ⟨q7, k7⟩ => ?_
  have g7 := k7.got hl g
  have M7 := M.chg k7 hm (fun f => f)
  have lm : ldM ⟨pb, 0 + 1, none⟩ h = some (some mb) := zvo_ g rfl
  refine .bnd rfl (.bnd (zvo_ g7 rfl) (.gp (ssw1 (by dsimp only; rw [lm]; rfl)) ?_))
  rw [q7]
  have l4 := zqv_ (l := bl s) (i := i) (by rw [zh_]; omega)
  have kq : ∀ e ∈ es, zfe_ (keyV (four (bl s) i)) (keyV e.1) = some (decide (e.1 = four (bl s) i)) := fun e he => zdx_ (by rw [l4, k4 e he])
  have lk := M7.look kq (dec := decI .i64) (dv := fun n : Nat => (n : Int)) (fun v => rfl) (z := .int .i64 0) (z0 := 0) rfl
  refine .bnd lk (Wp.jn fun j16 h16 => Wp.jn fun j24 h24 => ?_)
  have hb := zlq_ (bl s) i (min 64 i) (by omega) (by omega)
  have ebF : znb_ (bl s) i es = match lkM (four (bl s) i) es with
   | some v => if i - v ≤ 65535 ∧ (ztc_ (bl s) i n0).2 < lcp ((bl s).drop v) ((bl s).drop i) then (i - v, lcp ((bl s).drop v) ((bl s).drop i)) else ztc_ (bl s) i n0
   | none => ztc_ (bl s) i n0 := by rw [en0]; rfl
  cases hv : lkM (four (bl s) i) es with
  | none =>
   refine .ifn (by simp) ?_
   rw [h24]
   refine .ifn (by simp) ?_
   rw [h16]
   exact .of ⟨by rw [ebF, hv], k7⟩
  | some v =>
   obtain ⟨e, he, _, e2⟩ := zgs_ hv
   have hvi := ha e he
   have ebF : znb_ (bl s) i es = if i - v ≤ 65535 ∧ (ztc_ (bl s) i n0).2 < lcp ((bl s).drop v) ((bl s).drop i) then (i - v, lcp ((bl s).drop v) ((bl s).drop i)) else ztc_ (bl s) i n0 := by rw [ebF, hv]
   refine .ifp rfl ?_
   rw [h24]
   simp only []
   rw [show IntKind.wrap .i64 ((i : Int) - (v : Int)) = ((i - v : Nat) : Int) by rw [Gx.w64 _ (by omega)]; omega]
   by_cases c1 : i - v ≤ 65535
   ·refine .ifp (by simp; omega) (.bnd (zPq_ D g7 (by omega) (by omega) hs (by omega)) ?_)
    by_cases c2 : (ztc_ (bl s) i n0).2 < lcp ((bl s).drop v) ((bl s).drop i)
    ·rw [if_pos ⟨c1, c2⟩] at ebF
     rw [h16]
     exact .ifp (by simp; omega) (.of ⟨by rw [ebF], k7⟩)
    ·rw [if_neg (fun q => c2 q.2)] at ebF
     rw [h16]
     exact .ifn (by simp; omega) (.of ⟨by rw [ebF], k7⟩)
   ·rw [if_neg (fun q => c1 q.1)] at ebF
    refine .ifn (by simp; omega) ?_
    rw [h16]
    exact .of ⟨by rw [ebF], k7⟩
 have loop : ∀ d n : Nat, n + d = n0 → Gx.Wp (zi_ bot (d + 1) (zPc_ k D j6) (some ⟨pb, 0, none⟩) (i : Int) ((ztc_ (bl s) i n).1 : Int) ((ztc_ (bl s) i n).2 : Int) ((n + 1 : Nat) : Int) h) fun z => z.1 = (((znb_ (bl s) i es).1 : Int), ((znb_ (bl s) i es).2 : Int)) ∧ zc_ h z.2 := fun d => by
  induction d with
  | zero =>
   intro n hd
   rw [zg_]; simp only [zPc_]
   rw [en]
   refine .ifn (by simp; omega) ?_
   obtain rfl : n = n0 := by omega
   exact fin
  | succ d ih =>
   intro n hd
   rw [zg_]; simp only [zPc_]
   rw [en]
   refine .ifp (by simp; omega) (Wp.jn fun j39 h39 => ?_)
   rw [show IntKind.wrap .i64 ((i : Int) - ((n + 1 : Nat) : Int)) = ((i - (n + 1) : Nat) : Int) by rw [Gx.w64 _ (by omega)]; omega]
   refine .bnd (zPq_ D g (by omega) (by omega) hs (by omega)) ?_
   have := ih (n + 1) (by omega)
   rw [h39]
   dsimp only
   rw [Gx.w1 (by omega)]
   unfold ztc_ at this
   by_cases c : (ztc_ (bl s) i n).2 < lcp ((bl s).drop (i - (n + 1))) ((bl s).drop i)
   ·rw [if_pos c] at this
    exact .ifp (by simp; omega) this
   ·rw [if_neg c] at this
    exact .ifn (by simp; omega) this
 exact loop n0 0 (by omega)
end
structure WB (H : AHeap) (wb : Nat) (o : Slc) (out : List UInt8) : Prop where
 g : H.get wb = some (.cells [.slice o.a o.len o.cap] 183 true 0)
 A : Acc encB 5 (wb + 1) H o out
 lt : wb < H.next
section
variable {k wb : Nat} {H H' : AHeap} {o : Slc} {out : List UInt8} {D : za_}
theorem WB.keeps (B : WB H wb o out) (c : zc_ H H') : WB H' wb o out := ⟨c.got B.lt B.g, B.A.keeps c, Nat.lt_of_lt_of_le B.lt c.nx⟩
theorem WB.chg {S : Nat → Prop} (B : WB H wb o out) (c : Chg S H H') (h1 : ∀ y, S y → y < wb ∨ H.next ≤ y) : WB H' wb o out := by
 refine ⟨c.got B.lt (fun q => ?_) B.g, B.A.chg c fun a ha q => ?_, Nat.lt_of_lt_of_le B.lt c.nx⟩
 ·have := h1 _ q; have := B.lt; omega
 ·have := h1 _ q; have := B.A.lt a ha; omega
theorem WB.app (B : WB H wb o out) {ys : List UInt8} (hs : 2 * (out.length + ys.length) * 1 ≤ 281474976710656) :
  ∃ o' h1, zl_ 1 1 5 H o (ys.map encB) ys.length = some (o', h1) ∧ ∃ h2, st1 ⟨wb, 0, none⟩ (.slice o'.a o'.len o'.cap) h1 = some h2 ∧ WB h2 wb o' (out ++ ys) ∧ Chg (fun y => wb ≤ y) H h2 := by
 obtain ⟨o', h1, a, A', c, d⟩ := B.A.app (fun _ => rfl) ys hs (by decide) B.lt
 have no : ¬ ofS o wb := fun ⟨z, hz, e⟩ => by have := (B.A.lt z hz).2; omega
 have g1 := c.got B.lt no B.g
 have nx := c.nx
 refine ⟨o', h1, a, _, zpc_ g1 (by simp) rfl, ⟨by simp, A'.chg (Chg.set (S := (· = wb)) (.inr rfl)) fun z hz e => ?_, by show wb < h1.next; have := B.lt; omega⟩, ?_⟩
 ·have e : z.block = wb := e
  have := (A'.lt z hz).2
  omega
 ·refine Chg.trans (c.wk fun y _ ⟨z, hz, e⟩ => by have := (B.A.lt z hz).2; omega) (Chg.set (.inr (Nat.le_refl _)))
theorem atWb {h h' : AHeap} (c : zc_ h h') : Chg (fun y => wb ≤ y) h h' := Chg.keeps c
theorem WB.put {R : Type} {Q : R → Prop} (B : WB H wb o out) {ys : List UInt8} (hs : 2 * (out.length + ys.length) * 1 ≤ 281474976710656) {f : AHeap → Option R} (J : ∀ o' h2, WB h2 wb o' (out ++ ys) → Chg (fun y => wb ≤ y) H h2 → Gx.Wp (f h2) Q) :
  Gx.Wp ((zl_ 1 1 5 H o (ys.map encB) ys.length).bind fun r => (some (⟨wb, 0, none⟩ : Addr)).bind fun p => (st1 (⟨p.block, p.off + 0, none⟩ : Addr) (.slice r.1.a r.1.len r.1.cap) r.2).bind f) Q := by
 obtain ⟨o', h1, a, h2, b, B', c⟩ := B.app hs
 exact .bnd a (.bnd rfl (.bnd b (J o' h2 B' c)))
theorem zyk_ {h : AHeap} {n : Nat} {l : List UInt8} (hn : l.length = n) (g : H = h.new (.cells (l.map encB) 5 true 0)) : Gx.rdS 1 ⟨some ⟨h.next, 0, some 0⟩, n, n⟩ H = some (l.map encB) := by
 subst hn; subst g
 have := zai_ (h := h.new (.cells (l.map encB) 5 true 0)) (b := h.next) (c := l.map encB) (e := 5) (r := true) (fz := 0) (by simp)
 simpa [Gx.rdS] using this
theorem zNq_ (n : Nat) : Value.int .u8 (IntKind.wrap .u8 (n : Int)) = encB (UInt8.ofNat n) := by
 unfold encB
 rw [UInt8.toNat_ofNat', IntKind.wrap_u8]
 rfl
theorem zHo_ (B : WB H wb o out) {n : Nat} (hn : n ≤ 3000000) (ho : out.length ≤ 4000000) (hk : 20000 ≤ k) :
  Gx.Wp (zEd_ k D (some ⟨wb, 0, none⟩) (n : Int) H) fun z => ∃ o', WB z.2 wb o' (out ++ numB n) ∧ Chg (fun y => wb ≤ y) H z.2 := by
 simp only [zEd_]
 by_cases c : n < 15
 ·refine .ifp (by simp; omega) (.of ⟨o, ?_, Chg.refl _ _⟩)
  rw [numB, if_pos c, List.append_nil]; exact B
 ·refine .ifn (by simp; omega) (Wp.jn fun j4 h4 => ?_)
  rw [show IntKind.wrap .i64 ((n : Int) - 15) = ((n - 15 : Nat) : Int) by rw [Gx.w64 _ (by omega)]; omega]
  unfold zOh_
  obtain ⟨q, eq⟩ : ∃ q, q = (n - 15) / 255 := ⟨_, rfl⟩
  obtain ⟨bot, eb⟩ := zq_ (fun _ _ _ => none) (zzc_ k D j4) (show q + 1 ≤ k by omega)
  rw [eb, numB, if_neg c]
  have loop : ∀ (d : Nat) (o : Slc) (out : List UInt8) (H1 : AHeap) (m : Nat), m / 255 = d → m ≤ 3000000 → out.length + d ≤ 5000000 → WB H1 wb o out → Chg (fun y => wb ≤ y) H H1 →
    Gx.Wp (zi_ bot (d + 1) (zzc_ k D j4) (some ⟨wb, 0, none⟩) (m : Int) H1) fun z => ∃ o', WB z.2 wb o' (out ++ (List.replicate d 255 ++ [UInt8.ofNat (m % 255)])) ∧ Chg (fun y => wb ≤ y) H z.2 := fun d => by
   induction d with
   | zero =>
    intro o out H1 m hd hm hl B cc
    rw [zg_]; simp only [zzc_]
    refine .ifn (by simp; omega) ?_
    rw [h4]
    refine .bnd rfl (.bnd (zB_ B.g rfl) (Wp.newE fun h7 e7 k7 n7 g7 => ?_))
    rw [zNq_] at e7
    refine .bnd (zyk_ (l := [UInt8.ofNat m]) rfl e7) ((B.keeps k7).put (ys := [UInt8.ofNat m]) (by simp; omega) fun o' h2 B' c' => .of ⟨o', ?_, (cc.trans (atWb k7)).trans c'⟩)
    rw [List.replicate_zero, List.nil_append, show m % 255 = m by omega]
    exact B'
   | succ d ih =>
    intro o out H1 m hd hm hl B cc
    rw [zg_]; simp only [zzc_]
    refine .ifp (by simp; omega) (.bnd rfl (.bnd (zB_ B.g rfl) (Wp.newE fun h7 e7 k7 n7 g7 => ?_)))
    refine .bnd (zyk_ (l := [255]) rfl e7) ((B.keeps k7).put (ys := [255]) (by simp; omega) fun o' h2 B' c' => ?_)
    rw [show IntKind.wrap .i64 ((m : Int) - 255) = ((m - 255 : Nat) : Int) by rw [Gx.w64 _ (by omega)]; omega]
    refine .mono (ih o' (out ++ [255]) h2 (m - 255) (by omega) (by omega) (by simp; omega) B' ((cc.trans (atWb k7)).trans c')) fun z ⟨o2, w1, w2⟩ => ⟨o2, ?_, w2⟩
    have e : out ++ [255] ++ (List.replicate d 255 ++ [UInt8.ofNat ((m - 255) % 255)]) = out ++ (List.replicate (d + 1) 255 ++ [UInt8.ofNat (m % 255)]) := by
     rw [show (m - 255) % 255 = m % 255 by omega, List.replicate_succ]
     simp
    rw [← e]
    exact w1
  have := loop q o out H (n - 15) eq.symm (by omega) (by omega) B (Chg.refl _ _)
  rw [← eq]
  exact this
theorem zQD_ : ∀ a b : Fin 16, Go.bits .or .i64 (IntKind.wrap .i64 ((a.val : Int) * 16)) (b.val : Int) = ((a.val * 16 + b.val : Nat) : Int) := by decide +kernel
theorem zQj_ (n : Nat) : (numB n).length ≤ n + 1 := by
 unfold numB
 split
 ·simp
 ·simp; omega
theorem zOm_ (B : WB H wb o out) (ls : ByteArray) (hls : ls.size ≤ 1048576) {d n : Nat} (hd : d ≤ 65535) (hn : 4 ≤ n ∨ d = 0) (hn2 : n ≤ 1048576) (ho : out.length ≤ 1500000) (hk : 20000 ≤ k) :
  Gx.Wp (zMc_ k D (some ⟨wb, 0, none⟩) ls (d : Int) (n : Int) H) fun z => ∃ o', WB z.2 wb o' (out ++ seqB (bl ls) d n) ∧ Chg (fun y => wb ≤ y) H z.2 := by
 simp only [zMc_]
 obtain ⟨a, ea⟩ : ∃ a, a = min ls.size 15 := ⟨_, rfl⟩
 have e1 : (if (15 : Int) < (ls.size : Int) then (15 : Int) else (ls.size : Int)) = (a : Int) := by
  by_cases z : 15 < ls.size
  ·rw [if_pos (by omega)]; omega
  ·rw [if_neg (by omega)]; omega
 rw [e1]
 refine Wp.jn fun j8 h8 => ?_
 have J : ∀ t : Int, Value.int .u8 (IntKind.wrap .u8 t) = encB (tokB (bl ls).length d n) → Gx.Wp (j8 (some ⟨wb, 0, none⟩) ls (d : Int) (n : Int) t H) fun z => ∃ o', WB z.2 wb o' (out ++ seqB (bl ls) d n) ∧ Chg (fun y => wb ≤ y) H z.2 := by
  intro t ht
  rw [h8]
  have ll : (bl ls).length = ls.size := zh_ ls
  have lnb := zQj_ ls.size
  have lnb2 := zQj_ (n - 4)
  refine .bnd rfl (.bnd (zB_ B.g rfl) (Wp.newE fun h11 e11 k11 n11 g11 => ?_))
  rw [ht] at e11
  refine .bnd (zyk_ (l := [tokB (bl ls).length d n]) rfl e11) ((B.keeps k11).put (ys := [tokB (bl ls).length d n]) (by simp; omega) fun o1 h15 B1 c1 => ?_)
  have x1 : Chg (fun y => wb ≤ y) H h15 := (atWb k11).trans c1
  refine .call (zHo_ B1 (by omega) (by simp; omega) hk) fun r16 ⟨o2, B2, c2⟩ => ?_
  refine .bnd rfl (.bnd (zB_ B2.g rfl) ?_)
  rw [zJk_]
  refine B2.put (ys := bl ls) (by simp; omega) fun o3 h21 B3 c3 => ?_
  have x3 : Chg (fun y => wb ≤ y) H h21 := (x1.trans c2).trans c3
  have es : out ++ [tokB (bl ls).length d n] ++ numB ls.size ++ bl ls = out ++ (tokB (bl ls).length d n :: numB (bl ls).length ++ bl ls) := by rw [ll]; simp
  rw [es] at B3
  by_cases c : d = 0
  ·refine .ifn (by simp; omega) (.of ⟨o3, ?_, x3⟩)
   subst c
   unfold seqB
   rw [if_neg (by omega), List.append_nil]
   exact B3
  ·refine .ifp (by simp; omega) (.bnd rfl (.bnd (zB_ B3.g rfl) (Wp.newE fun h24 e24 k24 n24 g24 => ?_)))
   rw [show Int.fdiv (d : Int) 256 = ((d / 256 : Nat) : Int) by rw [Int.fdiv_eq_ediv_of_nonneg _ (by decide)]; omega, zNq_, zNq_] at e24
   have e25 : UInt8.ofNat d = UInt8.ofNat (d % 256) := by
    apply UInt8.toNat_inj.1
    rw [UInt8.toNat_ofNat', UInt8.toNat_ofNat']; omega
   have lo3 : (out ++ (tokB (bl ls).length d n :: numB (bl ls).length ++ bl ls)).length ≤ out.length + 1 + (ls.size + 1) + ls.size := by
    simp only [List.length_append, List.length_cons]; rw [ll]; omega
   refine .bnd (zyk_ (l := [UInt8.ofNat d, UInt8.ofNat (d / 256)]) rfl e24) ((B3.keeps k24).put (ys := [UInt8.ofNat d, UInt8.ofNat (d / 256)]) (by simp only [List.length_cons, List.length_nil]; omega) fun o4 h28 B4 c4 => ?_)
   rw [show IntKind.wrap .i64 ((n : Int) - 4) = ((n - 4 : Nat) : Int) by rw [Gx.w64 _ (by omega)]; omega]
   refine .call (zHo_ B4 (by omega) (by rw [List.length_append]; simp only [List.length_cons, List.length_nil]; omega) hk) fun r29 ⟨o5, B5, c5⟩ => .of ⟨o5, ?_, ((x3.trans (atWb k24)).trans c4).trans c5⟩
   unfold seqB
   rw [if_pos (by omega), ← e25]
   have : out ++ (tokB (bl ls).length d n :: numB (bl ls).length ++ bl ls) ++ [UInt8.ofNat d, UInt8.ofNat (d / 256)] ++ numB (n - 4) = out ++ (tokB (bl ls).length d n :: numB (bl ls).length ++ bl ls ++ UInt8.ofNat d :: UInt8.ofNat (d / 256) :: numB (n - 4)) := by simp
   rw [← this]
   exact B5
 have ll : (bl ls).length = ls.size := zh_ ls
 by_cases c : d = 0
 ·refine .ifn (by simp; omega) (J _ ?_)
  have : IntKind.wrap .i64 ((a : Int) * 16) = ((a * 16 : Nat) : Int) := by rw [Gx.w64 _ (by omega)]; omega
  rw [this, zNq_]
  unfold tokB
  rw [ll, if_neg (by omega), ea]; rfl
 ·refine .ifp (by simp; omega) ?_
  obtain ⟨b, eb⟩ : ∃ b, b = min (n - 4) 15 := ⟨_, rfl⟩
  have hn' := hn.resolve_right c
  have e2 : (if (15 : Int) < IntKind.wrap .i64 ((n : Int) - 4) then (15 : Int) else IntKind.wrap .i64 ((n : Int) - 4)) = (b : Int) := by
   rw [Gx.w64 _ (by omega)]
   by_cases z : 15 < n - 4
   ·rw [if_pos (by omega)]; omega
   ·rw [if_neg (by omega)]; omega
  simp only [e2]
  refine J _ ?_
  have eo : Go.bits .or .i64 (IntKind.wrap .i64 ((a : Int) * 16)) (b : Int) = ((a * 16 + b : Nat) : Int) := zQD_ ⟨a, by omega⟩ ⟨b, by omega⟩
  rw [eo, zNq_]
  unfold tokB
  rw [ll, if_pos (by omega), ea, eb]
end
end Gg
