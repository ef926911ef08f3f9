import Derived.Test.YtkpblfioibiidaaSp1
namespace Gy
open Go Gx Go.Proofs
def turnF (R C : Nat) (g : Nat → Nat) : Nat → Nat := fun t => g (t % R * C + t / R)
def turnP (r c : Int) (xs : List Int) : MRes := if chk r c xs ≠ 0 then noM (chk r c xs) else ((c, r, matN (c.toNat * r.toNat) (turnF r.toNat c.toNat (natOf xs))), 0)
def cf (R i j : Nat) (F : Nat → Nat) : Nat → Nat := fun t => if t % R < i ∨ (t % R = i ∧ t / R < j) then F t else 0
theorem cf_upd {R i j : Nat} (hi : i < R) (F : Nat → Nat) (t : Nat) : updN (cf R i j F) (j * R + i) (F (j * R + i)) t = cf R i (j + 1) F t := by
  have hR : 0 < R := by omega
  unfold updN cf
  by_cases e : t = j * R + i
  · subst e; rw [if_pos rfl, pos_div hi, pos_mod hi, if_pos (.inr ⟨rfl, by omega⟩)]
  · rw [if_neg e]
    have ne : ¬ (t / R = j ∧ t % R = i) := fun h => e ((pos_eq hR).2 h).1
    by_cases l : t % R < i ∨ (t % R = i ∧ t / R < j)
    · rw [if_pos l, if_pos (by omega)]
    · rw [if_neg l, if_neg (by omega)]
theorem cf_col {R C i : Nat} (F : Nat → Nat) {t : Nat} (ht : t < C * R) (hR : 0 < R) : cf R i C F t = cf R (i + 1) 0 F t := by
  have := (Nat.div_lt_iff_lt_mul hR).2 ht
  have e : (t % R < i ∨ (t % R = i ∧ t / R < C)) ↔ (t % R < i + 1 ∨ (t % R = i + 1 ∧ t / R < 0)) := ⟨fun h => .inl (by omega), fun h => by
    rcases h with h | ⟨_, h⟩
    · by_cases l : t % R < i
      · exact .inl l
      · exact .inr ⟨by omega, this⟩
    · exact absurd h (Nat.not_lt_zero _)⟩
  unfold cf
  by_cases l : t % R < i ∨ (t % R = i ∧ t / R < C)
  · rw [if_pos l, if_pos (e.1 l)]
  · rw [if_neg l, if_neg (fun h => l (e.2 h))]
theorem cf_all {R : Nat} (F : Nat → Nat) {t : Nat} (hR : 0 < R) : cf R R 0 F t = F t := by
  unfold cf
  rw [if_pos (.inl (Nat.mod_lt _ hR))]
theorem cf_none {R : Nat} (F : Nat → Nat) {t : Nat} : cf R 0 0 F t = 0 := by
  unfold cf
  rw [if_neg (by rintro (h | ⟨_, h⟩) <;> exact absurd h (Nat.not_lt_zero _))]
theorem turnF_at {R C i j : Nat} {g : Nat → Nat} (hi : i < R) : turnF R C g (j * R + i) = g (i * C + j) := by
  unfold turnF; rw [pos_div hi, pos_mod hi]
section
variable {k0 : Nat} {H0 : AHeap} {O oa oo R C BA : Nat} {sA : Slc} {sp : Option Nat} {g : Nat → Nat}
theorem rturn_l1 (_hk : 1000 ≤ k0) (D : CallF) (hC : C ≤ 255) (hR : R ≤ 255) (y : Option Addr) {i : Nat} (hi : i < R) : ∀ (m j : Nat) (h : AHeap), j + m = C → In1 h O oa R C sA 54 g → Ou1 H0 O oo C R 54 (cf R i j (turnF R C g)) h →
    ∃ h', Chg (· = O) h h' ∧ Ou1 H0 O oo C R 54 (cf R i C (turnF R C g)) h' ∧ ∀ J bot, iterK bot (m + 1) (ref04_Turn_l1b k0 D J) (some ⟨oa, 0, none⟩) y (some ⟨oo, 0, none⟩) (i : Int) (j : Int) h = J (some ⟨oa, 0, none⟩) y (some ⟨oo, 0, none⟩) (i : Int) h' := by
  intro m
  have hs : R * C ≤ 100000 := Nat.le_trans (Nat.mul_le_mul hR hC) (by omega)
  have hs2 : C * R ≤ 100000 := Nat.le_trans (Nat.mul_le_mul hC hR) (by omega)
  induction m with
  | zero =>
    intro j h hj A Z
    obtain rfl : j = C := by omega
    refine ⟨h, .refl _ _, Z, fun J bot => ?_⟩
    have ca := A.cel
    rw [iterK_s, ref04_Turn_l1b]
    with_reducible repeat' first | refine sbn ?_ | refine bnd (ldM3 (by assumption)) ?_ | refine bnd (decM3 _ _ _) ?_ | refine bnd (ldI0 (by assumption)) ?_ | refine bnd (ldI1 (by assumption)) ?_ | refine bnd (ldL2 (by assumption)) ?_ | refine jn ?_ | refine gp1 ?_ ?_ | refine gp2 ?_ ?_ ?_ | refine gp3 ?_ ?_ ?_ ?_ | refine bnd (ldZ0 (by assumption)) ?_ | refine bnd (ldZ1 (by assumption)) ?_ | refine bnd (ldZ2 (by assumption)) ?_ | rfl
    exact ifn (by rw [decide_eq_true_eq]; omega) rfl
  | succ m ih =>
    intro j h hj A Z
    have hj' : j < C := by omega
    have pA := le_row (c := C) hi
    have pO := le_row (c := R) hj'
    obtain ⟨h1, e1, k1⟩ := A.at k0 D hi hj' hs
    have A1 := A.keeps k1
    have Z1 := Z.keeps k1
    obtain ⟨h2, e2, Z2, c2⟩ := Z1.wr (t := j * R + i) (x := g (i * C + j)) (by omega) (A.el _ (by omega))
    obtain ⟨h', c', Z', e'⟩ := ih (j + 1) h2 (by omega) (A1.chg c2) (Z2.congr fun t _ => by rw [← turnF_at (C := C) (g := g) hi]; exact cf_upd hi _ t)
    refine ⟨h', ((Chg.keeps k1).trans c2).trans c', Z', fun J bot => ?_⟩
    have ca := A.cel
    have ca1 := A1.cel
    have co := Z.cel
    have co1 := Z1.cel
    rw [iterK_s, ref04_Turn_l1b]
    with_reducible repeat' first | refine sbn ?_ | refine bnd (ldM3 (by assumption)) ?_ | refine bnd (decM3 _ _ _) ?_ | refine bnd (ldI0 (by assumption)) ?_ | refine bnd (ldI1 (by assumption)) ?_ | refine bnd (ldL2 (by assumption)) ?_ | refine jn ?_ | refine gp1 ?_ ?_ | refine gp2 ?_ ?_ ?_ | refine gp3 ?_ ?_ ?_ ?_ | refine bnd (ldZ0 (by assumption)) ?_ | refine bnd (ldZ1 (by assumption)) ?_ | refine bnd (ldZ2 (by assumption)) ?_ | rfl
    refine ifp (by rw [decide_eq_true_eq]; omega) ?_
    with_reducible repeat' first | refine sbn ?_ | refine bnd (ldM3 (by assumption)) ?_ | refine bnd (decM3 _ _ _) ?_ | refine bnd (ldI0 (by assumption)) ?_ | refine bnd (ldI1 (by assumption)) ?_ | refine bnd (ldL2 (by assumption)) ?_ | refine jn ?_ | refine gp1 ?_ ?_ | refine gp2 ?_ ?_ ?_ | refine gp3 ?_ ?_ ?_ ?_ | refine bnd (ldZ0 (by assumption)) ?_ | refine bnd (ldZ1 (by assumption)) ?_ | refine bnd (ldZ2 (by assumption)) ?_ | rfl
    refine bnd e1 ?_
    with_reducible repeat' first | refine sbn ?_ | refine bnd (ldM3 (by assumption)) ?_ | refine bnd (decM3 _ _ _) ?_ | refine bnd (ldI0 (by assumption)) ?_ | refine bnd (ldI1 (by assumption)) ?_ | refine bnd (ldL2 (by assumption)) ?_ | refine jn ?_ | refine gp1 ?_ ?_ | refine gp2 ?_ ?_ ?_ | refine gp3 ?_ ?_ ?_ ?_ | refine bnd (ldZ0 (by assumption)) ?_ | refine bnd (ldZ1 (by assumption)) ?_ | refine bnd (ldZ2 (by assumption)) ?_ | rfl
    refine bnd (widx (C := R) (i := j) (show j * R + i < C * R by omega) hs2) (bnd e2 ?_)
    rw [w1 (by omega)]
    exact e' J bot
theorem rturn_l0 (hk : 1000 ≤ k0) (D : CallF) (hC : C ≤ 255) (hR : R ≤ 255) (y : Option Addr) : ∀ (m i : Nat) (h : AHeap), i + m = R → In1 h O oa R C sA 54 g → Ou1 H0 O oo C R 54 (cf R i 0 (turnF R C g)) h →
    ∃ h', Chg (· = O) h h' ∧ Ou1 H0 O oo C R 54 (cf R R 0 (turnF R C g)) h' ∧ ∀ J bot, iterK bot (m + 1) (ref04_Turn_l0b k0 D J) (some ⟨oa, 0, none⟩) y (some ⟨oo, 0, none⟩) (i : Int) h = J y (some ⟨oo, 0, none⟩) h' := by
  intro m
  induction m with
  | zero =>
    intro i h hi A Z
    obtain rfl : i = R := by omega
    refine ⟨h, .refl _ _, Z, fun J bot => ?_⟩
    have ca := A.cel
    rw [iterK_s, ref04_Turn_l0b]
    with_reducible repeat' first | refine sbn ?_ | refine bnd (ldM3 (by assumption)) ?_ | refine bnd (decM3 _ _ _) ?_ | refine bnd (ldI0 (by assumption)) ?_ | refine bnd (ldI1 (by assumption)) ?_ | refine bnd (ldL2 (by assumption)) ?_ | refine jn ?_ | refine gp1 ?_ ?_ | refine gp2 ?_ ?_ ?_ | refine gp3 ?_ ?_ ?_ ?_ | refine bnd (ldZ0 (by assumption)) ?_ | refine bnd (ldZ1 (by assumption)) ?_ | refine bnd (ldZ2 (by assumption)) ?_ | rfl
    exact ifn (by rw [decide_eq_true_eq]; omega) rfl
  | succ m ih =>
    intro i h hi A Z
    have hi' : i < R := by omega
    obtain ⟨h1, c1, Z1, e1⟩ := rturn_l1 hk D hC hR y hi' C 0 h (by omega) A Z
    obtain ⟨h', c', Z', e'⟩ := ih (i + 1) h1 (by omega) (A.chg c1) (Z1.congr fun t ht => cf_col _ ht (by omega))
    refine ⟨h', c1.trans c', Z', fun J bot => ?_⟩
    have ca := A.cel
    rw [iterK_s, ref04_Turn_l0b]
    with_reducible repeat' first | refine sbn ?_ | refine bnd (ldM3 (by assumption)) ?_ | refine bnd (decM3 _ _ _) ?_ | refine bnd (ldI0 (by assumption)) ?_ | refine bnd (ldI1 (by assumption)) ?_ | refine bnd (ldL2 (by assumption)) ?_ | refine jn ?_ | refine gp1 ?_ ?_ | refine gp2 ?_ ?_ ?_ | refine gp3 ?_ ?_ ?_ ?_ | refine bnd (ldZ0 (by assumption)) ?_ | refine bnd (ldZ1 (by assumption)) ?_ | refine bnd (ldZ2 (by assumption)) ?_ | rfl
    refine ifp (by rw [decide_eq_true_eq]; omega) ?_
    with_reducible repeat' first | refine sbn ?_ | refine bnd (ldM3 (by assumption)) ?_ | refine bnd (decM3 _ _ _) ?_ | refine bnd (ldI0 (by assumption)) ?_ | refine bnd (ldI1 (by assumption)) ?_ | refine bnd (ldL2 (by assumption)) ?_ | refine jn ?_ | refine gp1 ?_ ?_ | refine gp2 ?_ ?_ ?_ | refine gp3 ?_ ?_ ?_ ?_ | refine bnd (ldZ0 (by assumption)) ?_ | refine bnd (ldZ1 (by assumption)) ?_ | refine bnd (ldZ2 (by assumption)) ?_ | rfl
    unfold ref04_Turn_l1
    obtain ⟨bot2, hbot2⟩ := iterK_of (fun _ _ _ _ _ _ => none) (ref04_Turn_l1b k0 D _) (show C + 1 ≤ k0 by omega)
    rw [hbot2]
    refine (e1 _ bot2).trans ?_
    rw [w1 (by omega)]
    exact e' J bot
theorem whole_ld {h : AHeap} {B N : Nat} {sp : Option Nat} {g : Nat → Nat} (R : Row encI h (whole B N sp) (matN N g)) {t : Nat} (ht : t < N) : ldI .i64 ⟨B, t, none⟩ h = some (g t : Int) := by
  obtain ⟨q, hq, hld⟩ := R.ldI (i := t) (x := (g t : Int)) (by unfold matN; exact mat_get ht)
  rw [whole_idx ht] at hq
  cases hq
  exact hld
theorem mturn_l1 (_hk : 1000 ≤ k0) (D : CallF) (hC : C ≤ 255) (hR : R ≤ 255) (a y : Option Addr) (v w : Int) {i : Nat} (hi : i < R) : ∀ (m j : Nat) (h : AHeap), j + m = C → In1 h O oa R C (whole BA (R * C) sp) 51 g → Ou1 H0 O oo C R 51 (cf R i j (turnF R C g)) h →
    ∃ h', Chg (· = O) h h' ∧ Ou1 H0 O oo C R 51 (cf R i C (turnF R C g)) h' ∧ ∀ J bot, iterK bot (m + 1) (matrix_Turn_l1b k0 D J) a y (some ⟨oo, 0, none⟩) (i : Int) v w (rowOf BA C i) (C : Int) (j : Int) h = J a y (some ⟨oo, 0, none⟩) v w h' := by
  intro m
  have hs : R * C ≤ 100000 := Nat.le_trans (Nat.mul_le_mul hR hC) (by omega)
  have hs2 : C * R ≤ 100000 := Nat.le_trans (Nat.mul_le_mul hC hR) (by omega)
  induction m with
  | zero =>
    intro j h hj A Z
    obtain rfl : j = C := by omega
    refine ⟨h, .refl _ _, Z, fun J bot => ?_⟩
    rw [iterK_s, matrix_Turn_l1b]
    exact ifn (by rw [decide_eq_true_eq]; omega) rfl
  | succ m ih =>
    intro j h hj A Z
    have hj' : j < C := by omega
    have pA := le_row (c := C) hi
    have pO := le_row (c := R) hj'
    have ld := whole_ld A.row (t := i * C + j) (by omega)
    obtain ⟨h1, e1, k1, _⟩ := row_specS k0 D (r := C) (c := R) (b := O) (i := j) (sp := some 0) rfl h hj' (by omega) hs2
    have A1 := A.keeps k1
    have Z1 := Z.keeps k1
    obtain ⟨h2, e2, Z2, c2⟩ := Z1.wr (t := j * R + i) (x := g (i * C + j)) (by omega) (A.el _ (by omega))
    obtain ⟨h', c', Z', e'⟩ := ih (j + 1) h2 (by omega) (A1.chg c2) (Z2.congr fun t _ => by rw [← turnF_at (C := C) (g := g) hi]; exact cf_upd hi _ t)
    refine ⟨h', ((Chg.keeps k1).trans c2).trans c', Z', fun J bot => ?_⟩
    have co := Z.cel
    rw [iterK_s, matrix_Turn_l1b]
    refine ifp (by rw [decide_eq_true_eq]; omega) ?_
    refine bnd (rowOf_idx hj') (bnd ld ?_)
    with_reducible repeat' first | refine sbn ?_ | refine bnd (ldM3 (by assumption)) ?_ | refine bnd (decM3 _ _ _) ?_ | refine bnd (ldI0 (by assumption)) ?_ | refine bnd (ldI1 (by assumption)) ?_ | refine bnd (ldL2 (by assumption)) ?_ | refine jn ?_ | refine gp1 ?_ ?_ | refine gp2 ?_ ?_ ?_ | refine gp3 ?_ ?_ ?_ ?_ | refine bnd (ldZ0 (by assumption)) ?_ | refine bnd (ldZ1 (by assumption)) ?_ | refine bnd (ldZ2 (by assumption)) ?_ | rfl
    refine bnd e1 ?_
    refine bnd (rowOf_idx hi) (bnd e2 ?_)
    rw [w1 (by omega)]
    exact e' J bot
theorem mturn_l0 (hk : 1000 ≤ k0) (D : CallF) (hsp : spOk sp 1 = true) (hC1 : 0 < C) (hC : C ≤ 255) (hR : R ≤ 255) (y : Option Addr) : ∀ (m i : Nat) (h : AHeap), i + m = R → In1 h O oa R C (whole BA (R * C) sp) 51 g → Ou1 H0 O oo C R 51 (cf R i 0 (turnF R C g)) h →
    ∃ h', Chg (· = O) h h' ∧ Ou1 H0 O oo C R 51 (cf R R 0 (turnF R C g)) h' ∧ ∀ J bot, iterK bot (m + 1) (matrix_Turn_l0b k0 D J) (some ⟨oa, 0, none⟩) y (some ⟨oo, 0, none⟩) (R : Int) (i : Int) h = J y (some ⟨oo, 0, none⟩) h' := by
  intro m
  have hs : R * C ≤ 100000 := Nat.le_trans (Nat.mul_le_mul hR hC) (by omega)
  induction m with
  | zero =>
    intro i h hi A Z
    obtain rfl : i = R := by omega
    refine ⟨h, .refl _ _, Z, fun J bot => ?_⟩
    rw [iterK_s, matrix_Turn_l0b]
    exact ifn (by rw [decide_eq_true_eq]; omega) rfl
  | succ m ih =>
    intro i h hi A Z
    have hi' : i < R := by omega
    obtain ⟨h0, e0, k0', _⟩ := row_specS k0 D (r := R) (c := C) (b := BA) (i := i) hsp h hi' hC1 hs
    obtain ⟨h1, c1, Z1, e1⟩ := mturn_l1 hk D hC hR (some ⟨oa, 0, none⟩) y (R : Int) (i : Int) hi' C 0 h0 (by omega) (A.keeps k0') (Z.keeps k0')
    obtain ⟨h', c', Z', e'⟩ := ih (i + 1) h1 (by omega) ((A.keeps k0').chg c1) (Z1.congr fun t ht => cf_col _ ht (by omega))
    refine ⟨h', ((Chg.keeps k0').trans c1).trans c', Z', fun J bot => ?_⟩
    have ca := A.cel
    rw [iterK_s, matrix_Turn_l0b]
    refine ifp (by rw [decide_eq_true_eq]; omega) ?_
    with_reducible repeat' first | refine sbn ?_ | refine bnd (ldM3 (by assumption)) ?_ | refine bnd (decM3 _ _ _) ?_ | refine bnd (ldI0 (by assumption)) ?_ | refine bnd (ldI1 (by assumption)) ?_ | refine bnd (ldL2 (by assumption)) ?_ | refine jn ?_ | refine gp1 ?_ ?_ | refine gp2 ?_ ?_ ?_ | refine gp3 ?_ ?_ ?_ ?_ | refine bnd (ldZ0 (by assumption)) ?_ | refine bnd (ldZ1 (by assumption)) ?_ | refine bnd (ldZ2 (by assumption)) ?_ | rfl
    refine bnd e0 ?_
    unfold matrix_Turn_l1
    obtain ⟨bot2, hbot2⟩ := iterK_of (fun _ _ _ _ _ _ _ _ _ _ => none) (matrix_Turn_l1b k0 D _) (show C + 1 ≤ k0 by omega)
    rw [hbot2]
    refine (e1 _ bot2).trans ?_
    rw [w1 (by omega)]
    exact e' J bot
end
theorem rturn_spec {k0 : Nat} (hk : 200000 ≤ k0) (D : CallF) {h : AHeap} {r c : Int} {s : Slc} {xs : List Int} (I : Row encI h s xs) (hl : xs.length ≤ 100000) :
    ∃ h' res, ref04_Turn k0 D (r, c, s) h = some (res, h') ∧ Out h h' res (turnP r c xs) ∧ Keeps h h' := by
  obtain ⟨g1, hg1⟩ : ∃ g1, g1 = h.new (.cells [.int .i64 r, .int .i64 c, .slice s.a s.len s.cap] 54 true 0) := ⟨_, rfl⟩
  have k1 : Keeps h g1 := hg1 ▸ Keeps.new h _
  have n1 : g1.next = h.next + 1 := by rw [hg1]; rfl
  obtain ⟨g2, hg2⟩ : ∃ g2, g2 = g1.new (.cells [.int .i64 0, .int .i64 0, .slice none 0 0] 54 true 0) := ⟨_, rfl⟩
  have k2 : Keeps g1 g2 := hg2 ▸ Keeps.new g1 _
  have n2 : g2.next = g1.next + 1 := by rw [hg2]; rfl
  have k02 := k1.trans k2
  have a2 : g2.get h.next = some (.cells (mcell r c s) 54 true 0) := by rw [k2.oth _ (by omega) (fun f => f), hg1]; simp [mcell]
  have y2 : g2.get g1.next = some (.cells (mcell 0 0 nilS) 54 true 0) := by rw [hg2]; simp [mcell, nilS]
  obtain ⟨g5, e5, k5⟩ := rcheck_spec (k0 := k0) D (r := r) (c := c) (I.keeps k02) (by omega) (by omega)
  have k05 := k02.trans k5
  have a5 : g5.get h.next = some (.cells (mcell r c s) 54 true 0) := by rw [k5.oth _ (by omega) (fun f => f)]; exact a2
  have y5 : g5.get g1.next = some (.cells (mcell 0 0 nilS) 54 true 0) := by rw [k5.oth _ (by omega) (fun f => f)]; exact y2
  have nx5 := k5.nx
  by_cases ec : chk r c xs = 0
  · obtain ⟨R, C, g, rfl, rfl, hR1, hR2, hC1, hC2, hxs, hel⟩ := chk_ok ec
    have lA := row_lt I (by rw [hxs]; exact matN_ne (by have := Nat.mul_pos hR1 hC1; omega))
    have I5 := I.keeps k05
    rw [hxs] at I5
    have hN2 : C * R ≤ 100000 := Nat.le_trans (Nat.mul_le_mul hC2 hR2) (by omega)
    obtain ⟨g6, e6, k6, n6, b6⟩ := zero_spec k0 D C R g5 hN2
    obtain ⟨g7, st7, k7, n7, b7⟩ := mvar (h := g6) (e := 54) (r := (C : Int)) (c := (R : Int)) (s := whole (g5.next + 1) (C * R))
    have k57 := k6.trans k7
    have k07 := k05.trans k57
    have o7 : Mx g7 (g5.next + 1) (C * R) (fun _ => 0) := by
      have q : Mx g6 (g5.next + 1) (C * R) (fun _ => 0) := ⟨b6, by omega, fun _ _ => by omega⟩
      exact q.keeps k7
    have A7 : In1 g7 (g5.next + 1) h.next R C s 54 g := ⟨I5.keeps k57, by rw [k57.oth _ (by omega) (fun f => f)]; exact a5, by omega, by omega, fun a ha => by have := lA a ha; omega, hel⟩
    have Z7 : Ou1 g7 (g5.next + 1) g6.next C R 54 (cf R 0 0 (turnF R C g)) g7 := ⟨o7.congr fun t _ => (cf_none _).symm, b7, by omega, by omega, .refl _ _⟩
    obtain ⟨g8, c8, Z8, e8⟩ := rturn_l0 (show 1000 ≤ k0 by omega) D hC2 hR2 (some ⟨g1.next, 0, none⟩) R 0 g7 (by omega) A7 Z7
    have nx8 := c8.nx
    have y8 : g8.get g1.next = some (.cells (mcell 0 0 nilS) 54 true 0) := by
      rw [c8.oth _ (by omega) (by omega), k57.oth _ (by omega) (fun f => f)]; exact y5
    have co8 := Z8.cel
    have c08 : Keeps h g8 := k07.beh c8 fun x hx e => by have e : x = g5.next + 1 := e; omega
    refine ⟨g8.set g1.next (.cells (mcell C R (whole (g5.next + 1) (C * R))) 54 true 0), ((C, R, whole (g5.next + 1) (C * R)), 0), ?_, ?_, c08.beh (T := (· = g1.next)) (Chg.set (.inr rfl)) fun x hx e => by
      have e : x = g1.next := e
      omega⟩
    · unfold ref04_Turn
      dsimp only
      rw [← hg1, ← hg2]
      with_reducible repeat' first | refine sbn ?_ | refine bnd (ldM3 (by assumption)) ?_ | refine bnd (decM3 _ _ _) ?_ | refine bnd (ldI0 (by assumption)) ?_ | refine bnd (ldI1 (by assumption)) ?_ | refine bnd (ldL2 (by assumption)) ?_ | refine jn ?_ | refine gp1 ?_ ?_ | refine gp2 ?_ ?_ ?_ | refine gp3 ?_ ?_ ?_ ?_ | refine bnd (ldZ0 (by assumption)) ?_ | refine bnd (ldZ1 (by assumption)) ?_ | refine bnd (ldZ2 (by assumption)) ?_ | rfl
      refine bnd e5 (ifn (by simp [ec]) ?_)
      with_reducible repeat' first | refine sbn ?_ | refine bnd (ldM3 (by assumption)) ?_ | refine bnd (decM3 _ _ _) ?_ | refine bnd (ldI0 (by assumption)) ?_ | refine bnd (ldI1 (by assumption)) ?_ | refine bnd (ldL2 (by assumption)) ?_ | refine jn ?_ | refine gp1 ?_ ?_ | refine gp2 ?_ ?_ ?_ | refine gp3 ?_ ?_ ?_ ?_ | refine bnd (ldZ0 (by assumption)) ?_ | refine bnd (ldZ1 (by assumption)) ?_ | refine bnd (ldZ2 (by assumption)) ?_ | rfl
      refine bnd e6 (bnd st7 ?_)
      with_reducible repeat' first | refine sbn ?_ | refine bnd (ldM3 (by assumption)) ?_ | refine bnd (decM3 _ _ _) ?_ | refine bnd (ldI0 (by assumption)) ?_ | refine bnd (ldI1 (by assumption)) ?_ | refine bnd (ldL2 (by assumption)) ?_ | refine jn ?_ | refine gp1 ?_ ?_ | refine gp2 ?_ ?_ ?_ | refine gp3 ?_ ?_ ?_ ?_ | refine bnd (ldZ0 (by assumption)) ?_ | refine bnd (ldZ1 (by assumption)) ?_ | refine bnd (ldZ2 (by assumption)) ?_ | rfl
      unfold ref04_Turn_l0
      obtain ⟨bot, hbot⟩ := iterK_of (fun _ _ _ _ _ => none) (ref04_Turn_l0b k0 D _) (show R + 1 ≤ k0 by omega)
      rw [hbot]
      refine (e8 _ bot).trans ?_
      exact yfin co8 y8 fun x h => some ((x, (0 : Int)), h)
    · unfold turnP
      rw [if_neg (fun h => h ec)]
      simp only [Int.toNat_natCast]
      have u9 : Mx (g8.set g1.next (.cells (mcell C R (whole (g5.next + 1) (C * R))) 54 true 0)) (g5.next + 1) (C * R) (cf R R 0 (turnF R C g)) := Z8.o.chg (S := (· = g1.next)) (Chg.set (.inr rfl)) (by omega)
      refine ⟨rfl, rfl, rfl, ?_, whole_off (by omega)⟩
      refine (u9.congr fun t ht => ?_).inM (sp := some 0) rfl
      rw [cf_all _ (by omega)]
      have hd := (Nat.div_lt_iff_lt_mul hR1).2 ht
      have hm := Nat.mod_lt t hR1
      have := le_row (c := C) hm
      unfold turnF
      rw [hxs, natOf_mat (by omega)]
  · refine ⟨g5, ((0, 0, nilS), chk r c xs), ?_, ?_, k05⟩
    · unfold ref04_Turn
      dsimp only
      rw [← hg1, ← hg2]
      with_reducible repeat' first | refine sbn ?_ | refine bnd (ldM3 (by assumption)) ?_ | refine bnd (decM3 _ _ _) ?_ | refine bnd (ldI0 (by assumption)) ?_ | refine bnd (ldI1 (by assumption)) ?_ | refine bnd (ldL2 (by assumption)) ?_ | refine jn ?_ | refine gp1 ?_ ?_ | refine gp2 ?_ ?_ ?_ | refine gp3 ?_ ?_ ?_ ?_ | refine bnd (ldZ0 (by assumption)) ?_ | refine bnd (ldZ1 (by assumption)) ?_ | refine bnd (ldZ2 (by assumption)) ?_ | rfl
      refine bnd e5 (ifp (by simpa using ec) ?_)
      exact zfin y5 fun x h => some ((x, chk r c xs), h)
    · unfold turnP
      rw [if_pos ec]
      exact Out.no _
theorem mturn_spec {k0 : Nat} (hk : 200000 ≤ k0) (D : CallF) {h : AHeap} {r c : Int} {s : Slc} {xs : List Int} (I : InM h s xs) (hl : xs.length ≤ 100000) :
    ∃ h' res, matrix_Turn k0 D (r, c, s) h = some (res, h') ∧ Out h h' res (turnP r c xs) ∧ Keeps h h' := by
  obtain ⟨g1, hg1⟩ : ∃ g1, g1 = h.new (.cells [.int .i64 r, .int .i64 c, .slice s.a s.len s.cap] 51 true 0) := ⟨_, rfl⟩
  have k1 : Keeps h g1 := hg1 ▸ Keeps.new h _
  have n1 : g1.next = h.next + 1 := by rw [hg1]; rfl
  obtain ⟨g2, hg2⟩ : ∃ g2, g2 = g1.new (.cells [.int .i64 0, .int .i64 0, .slice none 0 0] 51 true 0) := ⟨_, rfl⟩
  have k2 : Keeps g1 g2 := hg2 ▸ Keeps.new g1 _
  have n2 : g2.next = g1.next + 1 := by rw [hg2]; rfl
  have k02 := k1.trans k2
  have a2 : g2.get h.next = some (.cells (mcell r c s) 51 true 0) := by rw [k2.oth _ (by omega) (fun f => f), hg1]; simp [mcell]
  have y2 : g2.get g1.next = some (.cells (mcell 0 0 nilS) 51 true 0) := by rw [hg2]; simp [mcell, nilS]
  obtain ⟨g5, e5, k5⟩ := check_spec (k0 := k0) D (r := r) (c := c) (I.keeps k02).row (by omega) (by omega)
  have k05 := k02.trans k5
  have a5 : g5.get h.next = some (.cells (mcell r c s) 51 true 0) := by rw [k5.oth _ (by omega) (fun f => f)]; exact a2
  have y5 : g5.get g1.next = some (.cells (mcell 0 0 nilS) 51 true 0) := by rw [k5.oth _ (by omega) (fun f => f)]; exact y2
  have nx5 := k5.nx
  by_cases ec : chk r c xs = 0
  · obtain ⟨R, C, g, rfl, rfl, hR1, hR2, hC1, hC2, hxs, hel⟩ := chk_ok ec
    have lA := row_lt I.row (by rw [hxs]; exact matN_ne (by have := Nat.mul_pos hR1 hC1; omega))
    have I5 := I.keeps k05
    rw [hxs] at I5
    obtain ⟨BA, sp, rfl, hsp, ma⟩ := I5.mx (by have := Nat.mul_pos hR1 hC1; omega) hel
    have hN2 : C * R ≤ 100000 := Nat.le_trans (Nat.mul_le_mul hC2 hR2) (by omega)
    obtain ⟨g6, e6, k6, n6, b6⟩ := blank_spec k0 D C R g5 hN2
    obtain ⟨g7, st7, k7, n7, b7⟩ := mvar (h := g6) (e := 51) (r := (C : Int)) (c := (R : Int)) (s := whole (g5.next + 1) (C * R))
    have k57 := k6.trans k7
    have k07 := k05.trans k57
    have o7 : Mx g7 (g5.next + 1) (C * R) (fun _ => 0) := by
      have q : Mx g6 (g5.next + 1) (C * R) (fun _ => 0) := ⟨b6, by omega, fun _ _ => by omega⟩
      exact q.keeps k7
    have A7 : In1 g7 (g5.next + 1) h.next R C (whole BA (R * C) sp) 51 g := ⟨I5.row.keeps k57, by rw [k57.oth _ (by omega) (fun f => f)]; exact a5, by omega, by omega, fun a ha => by have := lA a ha; omega, hel⟩
    have Z7 : Ou1 g7 (g5.next + 1) g6.next C R 51 (cf R 0 0 (turnF R C g)) g7 := ⟨o7.congr fun t _ => (cf_none _).symm, b7, by omega, by omega, .refl _ _⟩
    obtain ⟨g8, c8, Z8, e8⟩ := mturn_l0 (show 1000 ≤ k0 by omega) D hsp hC1 hC2 hR2 (some ⟨g1.next, 0, none⟩) R 0 g7 (by omega) A7 Z7
    have nx8 := c8.nx
    have y8 : g8.get g1.next = some (.cells (mcell 0 0 nilS) 51 true 0) := by
      rw [c8.oth _ (by omega) (by omega), k57.oth _ (by omega) (fun f => f)]; exact y5
    have co8 := Z8.cel
    have ca7 := A7.cel
    have c08 : Keeps h g8 := k07.beh c8 fun x hx e => by have e : x = g5.next + 1 := e; omega
    refine ⟨g8.set g1.next (.cells (mcell C R (whole (g5.next + 1) (C * R))) 51 true 0), ((C, R, whole (g5.next + 1) (C * R)), 0), ?_, ?_, c08.beh (T := (· = g1.next)) (Chg.set (.inr rfl)) fun x hx e => by
      have e : x = g1.next := e
      omega⟩
    · unfold matrix_Turn
      dsimp only
      rw [← hg1, ← hg2]
      with_reducible repeat' first | refine sbn ?_ | refine bnd (ldM3 (by assumption)) ?_ | refine bnd (decM3 _ _ _) ?_ | refine bnd (ldI0 (by assumption)) ?_ | refine bnd (ldI1 (by assumption)) ?_ | refine bnd (ldL2 (by assumption)) ?_ | refine jn ?_ | refine gp1 ?_ ?_ | refine gp2 ?_ ?_ ?_ | refine gp3 ?_ ?_ ?_ ?_ | refine bnd (ldZ0 (by assumption)) ?_ | refine bnd (ldZ1 (by assumption)) ?_ | refine bnd (ldZ2 (by assumption)) ?_ | rfl
      refine bnd e5 (ifn (by simp [ec]) ?_)
      with_reducible repeat' first | refine sbn ?_ | refine bnd (ldM3 (by assumption)) ?_ | refine bnd (decM3 _ _ _) ?_ | refine bnd (ldI0 (by assumption)) ?_ | refine bnd (ldI1 (by assumption)) ?_ | refine bnd (ldL2 (by assumption)) ?_ | refine jn ?_ | refine gp1 ?_ ?_ | refine gp2 ?_ ?_ ?_ | refine gp3 ?_ ?_ ?_ ?_ | refine bnd (ldZ0 (by assumption)) ?_ | refine bnd (ldZ1 (by assumption)) ?_ | refine bnd (ldZ2 (by assumption)) ?_ | rfl
      refine bnd e6 (bnd st7 ?_)
      with_reducible repeat' first | refine sbn ?_ | refine bnd (ldM3 (by assumption)) ?_ | refine bnd (decM3 _ _ _) ?_ | refine bnd (ldI0 (by assumption)) ?_ | refine bnd (ldI1 (by assumption)) ?_ | refine bnd (ldL2 (by assumption)) ?_ | refine jn ?_ | refine gp1 ?_ ?_ | refine gp2 ?_ ?_ ?_ | refine gp3 ?_ ?_ ?_ ?_ | refine bnd (ldZ0 (by assumption)) ?_ | refine bnd (ldZ1 (by assumption)) ?_ | refine bnd (ldZ2 (by assumption)) ?_ | rfl
      unfold matrix_Turn_l0
      obtain ⟨bot, hbot⟩ := iterK_of (fun _ _ _ _ _ _ => none) (matrix_Turn_l0b k0 D _) (show R + 1 ≤ k0 by omega)
      rw [hbot]
      refine (e8 _ bot).trans ?_
      exact yfin co8 y8 fun x h => some ((x, (0 : Int)), h)
    · unfold turnP
      rw [if_neg (fun h => h ec)]
      simp only [Int.toNat_natCast]
      have u9 : Mx (g8.set g1.next (.cells (mcell C R (whole (g5.next + 1) (C * R))) 51 true 0)) (g5.next + 1) (C * R) (cf R R 0 (turnF R C g)) := Z8.o.chg (S := (· = g1.next)) (Chg.set (.inr rfl)) (by omega)
      refine ⟨rfl, rfl, rfl, ?_, whole_off (by omega)⟩
      refine (u9.congr fun t ht => ?_).inM (sp := some 0) rfl
      rw [cf_all _ (by omega)]
      have hd := (Nat.div_lt_iff_lt_mul hR1).2 ht
      have hm := Nat.mod_lt t hR1
      have := le_row (c := C) hm
      unfold turnF
      rw [hxs, natOf_mat (by omega)]
  · refine ⟨g5, ((0, 0, nilS), chk r c xs), ?_, ?_, k05⟩
    · unfold matrix_Turn
      dsimp only
      rw [← hg1, ← hg2]
      with_reducible repeat' first | refine sbn ?_ | refine bnd (ldM3 (by assumption)) ?_ | refine bnd (decM3 _ _ _) ?_ | refine bnd (ldI0 (by assumption)) ?_ | refine bnd (ldI1 (by assumption)) ?_ | refine bnd (ldL2 (by assumption)) ?_ | refine jn ?_ | refine gp1 ?_ ?_ | refine gp2 ?_ ?_ ?_ | refine gp3 ?_ ?_ ?_ ?_ | refine bnd (ldZ0 (by assumption)) ?_ | refine bnd (ldZ1 (by assumption)) ?_ | refine bnd (ldZ2 (by assumption)) ?_ | rfl
      refine bnd e5 (ifp (by simpa using ec) ?_)
      exact zfin y5 fun x h => some ((x, chk r c xs), h)
    · unfold turnP
      rw [if_pos ec]
      exact Out.no _
end Gy
namespace Gy
open Go Gx Go.Proofs
def okR (R : Nat) (x : Int) : Bool := !(decide (x < 0) || decide (x ≥ (R : Int)))
def pickF (C : Nat) (g : Nat → Nat) (w : Nat → Nat) : Nat → Nat := fun t => g (w (t / C) * C + t % C)
def pickP (r c : Int) (xs rows : List Int) : MRes := if chk r c xs ≠ 0 then noM (chk r c xs) else if rows.length = 0 ∨ rows.length > 255 then noM 1 else if rows.all (okR r.toNat) then
  ((rows.length, c, matN (rows.length * c.toNat) (pickF c.toNat (natOf xs) (natOf rows))), 0) else noM 1
theorem pickF_at {C i j : Nat} {g w : Nat → Nat} (hj : j < C) : pickF C g w (i * C + j) = g (w i * C + j) := by
  unfold pickF; rw [pos_div hj, pos_mod hj]
theorem okR_nat {R : Nat} {rows : List Int} (h : rows.all (okR R) = true) {i : Nat} (hi : i < rows.length) : rows[i]? = some (natOf rows i : Int) ∧ natOf rows i < R := by
  obtain ⟨x, hx⟩ := isome hi
  have := List.all_eq_true.1 h x (mem_of hx)
  simp only [okR, Bool.not_eq_true', Bool.or_eq_false_iff, decide_eq_false_iff_not] at this
  unfold natOf
  rw [hx]
  simp
  omega
theorem all_at {R i : Nat} {rows : List Int} {x : Int} (hx : rows[i]? = some x) : (rows.drop i).all (okR R) = (okR R x && (rows.drop (i + 1)).all (okR R)) := by rw [dropc hx]; rfl
section
variable {k0 : Nat} {H0 : AHeap} {O oa oo R C : Nat} {sA rs : Slc} {rows : List Int} {g : Nat → Nat}
theorem rpick_l2 (D : CallF) {yb : Nat} {h : AHeap} (Rr : Row encI h rs rows) (hl : rows.length ≤ 255) (ca : h.get oa = some (.cells (mcell R C sA) 54 true 0)) (y : h.get yb = some (.cells (mcell 0 0 nilS) 54 true 0)) (J) : ∀ (m i : Nat), i + m = rows.length → ∀ bot,
    iterK bot (m + 1) (ref04_Pick_l2b k0 D J) rs (some ⟨oa, 0, none⟩) (some ⟨yb, 0, none⟩) (i : Int) h = if (rows.drop i).all (okR R) = true then J rs (some ⟨oa, 0, none⟩) (some ⟨yb, 0, none⟩) h else some (((0, 0, nilS), 1), h)
  | 0, i, hi, bot => by
    rw [iterK_s, ref04_Pick_l2b]
    refine ifn (by rw [decide_eq_true_eq, Rr.1]; omega) ?_
    rw [List.drop_eq_nil_of_le (by omega)]
    rfl
  | m + 1, i, hi, bot => by
    obtain ⟨x, hx⟩ := isome (l := rows) (i := i) (by omega)
    obtain ⟨q, hq, hld⟩ := Rr.ldI hx
    have ih := rpick_l2 D Rr hl ca y J m (i + 1) (by omega) bot
    rw [iterK_s, ref04_Pick_l2b]
    refine ifp (by rw [decide_eq_true_eq, Rr.1]; omega) ?_
    with_reducible repeat' first | refine sbn ?_ | refine bnd (ldM3 (by assumption)) ?_ | refine bnd (decM3 _ _ _) ?_ | refine bnd (ldI0 (by assumption)) ?_ | refine bnd (ldI1 (by assumption)) ?_ | refine bnd (ldL2 (by assumption)) ?_ | refine jn ?_ | refine gp1 ?_ ?_ | refine gp2 ?_ ?_ ?_ | refine gp3 ?_ ?_ ?_ ?_ | refine bnd (ldZ0 (by assumption)) ?_ | refine bnd (ldZ1 (by assumption)) ?_ | refine bnd (ldZ2 (by assumption)) ?_ | rfl
    refine bnd hq (bnd hld ?_)
    rw [all_at hx]
    by_cases c1 : x < 0
    · refine ifp (by rw [decide_eq_true_eq]; exact c1) (ifp rfl ?_)
      rw [if_neg (by simp [okR, c1])]
      exact zfin y fun x h => some ((x, (1 : Int)), h)
    · refine ifn (by rw [decide_eq_true_eq]; exact c1) ?_
      refine bnd hq (bnd hld ?_)
      with_reducible repeat' first | refine sbn ?_ | refine bnd (ldM3 (by assumption)) ?_ | refine bnd (decM3 _ _ _) ?_ | refine bnd (ldI0 (by assumption)) ?_ | refine bnd (ldI1 (by assumption)) ?_ | refine bnd (ldL2 (by assumption)) ?_ | refine jn ?_ | refine gp1 ?_ ?_ | refine gp2 ?_ ?_ ?_ | refine gp3 ?_ ?_ ?_ ?_ | refine bnd (ldZ0 (by assumption)) ?_ | refine bnd (ldZ1 (by assumption)) ?_ | refine bnd (ldZ2 (by assumption)) ?_ | rfl
      by_cases c2 : x ≥ (R : Int)
      · refine ifp (by rw [decide_eq_true_eq]; exact c2) ?_
        rw [if_neg (by simp [okR, c2])]
        exact zfin y fun x h => some ((x, (1 : Int)), h)
      · refine ifn (by rw [decide_eq_true_eq]; exact c2) ?_
        rw [w1 (by omega), ih]
        simp [okR, c1, c2]
theorem rpick_l1 (D : CallF) (hC : C ≤ 255) (hR : R ≤ 255) (hl : rows.length ≤ 255) (hok : rows.all (okR R) = true) (hap : ∀ a, rs.a = some a → ¬ a.block = O) (y : Option Addr) {i : Nat} (hi : i < rows.length) : ∀ (m j : Nat) (h : AHeap), j + m = C → Row encI h rs rows → In1 h O oa R C sA 54 g → Ou1 H0 O oo rows.length C 54 (pf (i * C + j) (pickF C g (natOf rows))) h →
    ∃ h', Chg (· = O) h h' ∧ Ou1 H0 O oo rows.length C 54 (pf ((i + 1) * C) (pickF C g (natOf rows))) h' ∧ ∀ J bot, iterK bot (m + 1) (ref04_Pick_l1b k0 D J) rs (some ⟨oa, 0, none⟩) y (some ⟨oo, 0, none⟩) (i : Int) (j : Int) h = J rs (some ⟨oa, 0, none⟩) y (some ⟨oo, 0, none⟩) (i : Int) h' := by
  intro m
  have hs : R * C ≤ 100000 := Nat.le_trans (Nat.mul_le_mul hR hC) (by omega)
  have hs2 : rows.length * C ≤ 100000 := Nat.le_trans (Nat.mul_le_mul hl hC) (by omega)
  obtain ⟨hx, hw⟩ := okR_nat hok hi
  induction m with
  | zero =>
    intro j h hj Rr A Z
    obtain rfl : j = C := by omega
    refine ⟨h, .refl _ _, by rw [Nat.succ_mul]; exact Z, fun J bot => ?_⟩
    have ca := A.cel
    rw [iterK_s, ref04_Pick_l1b]
    with_reducible repeat' first | refine sbn ?_ | refine bnd (ldM3 (by assumption)) ?_ | refine bnd (decM3 _ _ _) ?_ | refine bnd (ldI0 (by assumption)) ?_ | refine bnd (ldI1 (by assumption)) ?_ | refine bnd (ldL2 (by assumption)) ?_ | refine jn ?_ | refine gp1 ?_ ?_ | refine gp2 ?_ ?_ ?_ | refine gp3 ?_ ?_ ?_ ?_ | refine bnd (ldZ0 (by assumption)) ?_ | refine bnd (ldZ1 (by assumption)) ?_ | refine bnd (ldZ2 (by assumption)) ?_ | rfl
    exact ifn (by rw [decide_eq_true_eq]; omega) rfl
  | succ m ih =>
    intro j h hj Rr A Z
    have hj' : j < C := by omega
    have pA := le_row (c := C) hw
    have pO := le_row (c := C) hi
    obtain ⟨q, hq, hld⟩ := Rr.ldI hx
    obtain ⟨h1, e1, k1⟩ := A.at k0 D hw hj' hs
    have A1 := A.keeps k1
    have Z1 := Z.keeps k1
    obtain ⟨h2, e2, Z2, c2⟩ := Z1.wr (t := i * C + j) (x := g (natOf rows i * C + j)) (by omega) (A.el _ (by omega))
    obtain ⟨h', c', Z', e'⟩ := ih (j + 1) h2 (by omega) ((Rr.keeps k1).chg c2 hap) (A1.chg c2) (Z2.congr fun t _ => by rw [← pickF_at (g := g) (w := natOf rows) hj']; exact pf_upd _ _ t)
    refine ⟨h', ((Chg.keeps k1).trans c2).trans c', Z', fun J bot => ?_⟩
    have ca := A.cel
    have ca1 := A1.cel
    have co := Z.cel
    have co1 := Z1.cel
    rw [iterK_s, ref04_Pick_l1b]
    with_reducible repeat' first | refine sbn ?_ | refine bnd (ldM3 (by assumption)) ?_ | refine bnd (decM3 _ _ _) ?_ | refine bnd (ldI0 (by assumption)) ?_ | refine bnd (ldI1 (by assumption)) ?_ | refine bnd (ldL2 (by assumption)) ?_ | refine jn ?_ | refine gp1 ?_ ?_ | refine gp2 ?_ ?_ ?_ | refine gp3 ?_ ?_ ?_ ?_ | refine bnd (ldZ0 (by assumption)) ?_ | refine bnd (ldZ1 (by assumption)) ?_ | refine bnd (ldZ2 (by assumption)) ?_ | rfl
    refine ifp (by rw [decide_eq_true_eq]; omega) ?_
    with_reducible repeat' first | refine sbn ?_ | refine bnd (ldM3 (by assumption)) ?_ | refine bnd (decM3 _ _ _) ?_ | refine bnd (ldI0 (by assumption)) ?_ | refine bnd (ldI1 (by assumption)) ?_ | refine bnd (ldL2 (by assumption)) ?_ | refine jn ?_ | refine gp1 ?_ ?_ | refine gp2 ?_ ?_ ?_ | refine gp3 ?_ ?_ ?_ ?_ | refine bnd (ldZ0 (by assumption)) ?_ | refine bnd (ldZ1 (by assumption)) ?_ | refine bnd (ldZ2 (by assumption)) ?_ | rfl
    refine bnd hq (bnd hld ?_)
    refine bnd e1 ?_
    with_reducible repeat' first | refine sbn ?_ | refine bnd (ldM3 (by assumption)) ?_ | refine bnd (decM3 _ _ _) ?_ | refine bnd (ldI0 (by assumption)) ?_ | refine bnd (ldI1 (by assumption)) ?_ | refine bnd (ldL2 (by assumption)) ?_ | refine jn ?_ | refine gp1 ?_ ?_ | refine gp2 ?_ ?_ ?_ | refine gp3 ?_ ?_ ?_ ?_ | refine bnd (ldZ0 (by assumption)) ?_ | refine bnd (ldZ1 (by assumption)) ?_ | refine bnd (ldZ2 (by assumption)) ?_ | rfl
    refine bnd (widx (C := C) (i := i) (show i * C + j < rows.length * C by omega) hs2) (bnd e2 ?_)
    rw [w1 (by omega)]
    exact e' J bot
theorem rpick_l0 (hk : 1000 ≤ k0) (D : CallF) (hC : C ≤ 255) (hR : R ≤ 255) (hl : rows.length ≤ 255) (hok : rows.all (okR R) = true) (hap : ∀ a, rs.a = some a → ¬ a.block = O) (y : Option Addr) : ∀ (m i : Nat) (h : AHeap), i + m = rows.length → Row encI h rs rows → In1 h O oa R C sA 54 g → Ou1 H0 O oo rows.length C 54 (pf (i * C) (pickF C g (natOf rows))) h →
    ∃ h', Chg (· = O) h h' ∧ Ou1 H0 O oo rows.length C 54 (pickF C g (natOf rows)) h' ∧ ∀ J bot, iterK bot (m + 1) (ref04_Pick_l0b k0 D J) rs (some ⟨oa, 0, none⟩) y (some ⟨oo, 0, none⟩) (i : Int) h = J y (some ⟨oo, 0, none⟩) h' := by
  intro m
  induction m with
  | zero =>
    intro i h hi Rr A Z
    obtain rfl : i = rows.length := by omega
    refine ⟨h, .refl _ _, Z.congr fun t ht => by unfold pf; rw [if_pos ht], fun J bot => ?_⟩
    rw [iterK_s, ref04_Pick_l0b]
    exact ifn (by rw [decide_eq_true_eq, Rr.1]; omega) rfl
  | succ m ih =>
    intro i h hi Rr A Z
    have hi' : i < rows.length := by omega
    obtain ⟨h1, c1, Z1, e1⟩ := rpick_l1 (k0 := k0) D hC hR hl hok hap y hi' C 0 h (by omega) Rr A Z
    obtain ⟨h', c', Z', e'⟩ := ih (i + 1) h1 (by omega) (Rr.chg c1 hap) (A.chg c1) Z1
    refine ⟨h', c1.trans c', Z', fun J bot => ?_⟩
    rw [iterK_s, ref04_Pick_l0b]
    refine ifp (by rw [decide_eq_true_eq, Rr.1]; omega) ?_
    with_reducible repeat' first | refine sbn ?_ | refine bnd (ldM3 (by assumption)) ?_ | refine bnd (decM3 _ _ _) ?_ | refine bnd (ldI0 (by assumption)) ?_ | refine bnd (ldI1 (by assumption)) ?_ | refine bnd (ldL2 (by assumption)) ?_ | refine jn ?_ | refine gp1 ?_ ?_ | refine gp2 ?_ ?_ ?_ | refine gp3 ?_ ?_ ?_ ?_ | refine bnd (ldZ0 (by assumption)) ?_ | refine bnd (ldZ1 (by assumption)) ?_ | refine bnd (ldZ2 (by assumption)) ?_ | rfl
    unfold ref04_Pick_l1
    obtain ⟨bot2, hbot2⟩ := iterK_of (fun _ _ _ _ _ _ _ => none) (ref04_Pick_l1b k0 D _) (show C + 1 ≤ k0 by omega)
    rw [hbot2]
    refine (e1 _ bot2).trans ?_
    rw [w1 (by omega)]
    exact e' J bot
theorem mat_add (a b : Nat) (f : Nat → Int) : mat (a + b) f = mat a f ++ mat b (fun t => f (a + t)) := by
  unfold mat
  rw [List.range_add, List.map_append, List.map_map]; rfl
theorem matN_row {C i : Nat} {F u : Nat → Nat} (h : ∀ x, x < C → F (i * C + x) = u x) : matN (i * C) F ++ matN C u = matN ((i + 1) * C) F := by
  unfold matN
  rw [Nat.succ_mul, mat_add]
  congr 1
  exact mat_congr fun t ht => by rw [h t ht]
theorem row_row {h : AHeap} {B i : Nat} (hb : h.get B = some (outB encI 3 (matN (R * C) g))) (hB : B < h.next) (hi : i < R) : Row encI h (rowOf B C i) (matN C fun x => g (i * C + x)) := by
  have p := le_row (c := C) hi
  have := Row.of_block (enc := encI) (xs := matN C fun x => g (i * C + x)) (o := i * C) (sp := some 0) (cap := C) hb hB fun t x hx => by
    have ht : t < C := by have := (List.getElem?_eq_some_iff.1 hx).1; unfold matN at this; rw [mat_length] at this; exact this
    unfold matN at hx ⊢
    rw [mat_get ht] at hx
    cases hx
    rw [List.getElem?_map, mat_get (by omega)]
    rfl
  unfold rowOf
  rw [show (matN C fun x => g (i * C + x)).length = C from mat_length _ _] at this
  exact this
theorem stS2 {h : AHeap} {b : Nat} {e : TypeId} {r c : Int} {s s' : Slc} {sp : Option Nat} (hb : h.get b = some (.cells (mcell r c s) e true 0)) : st1 ⟨b, 2, sp⟩ (.slice s'.a s'.len s'.cap) h = some (h.set b (.cells (mcell r c s') e true 0)) := by
  rw [st1_of hb (by simp [mcell]) rfl]
  rfl
structure PK (H0 : AHeap) (base oo C n : Nat) (w : Nat → Nat) (g : Nat → Nat) (i : Nat) (h : AHeap) (s : Slc) : Prop where
  ch : Chg (fun x => base ≤ x) H0 h
  co : h.get oo = some (.cells (mcell n C s) 51 true 0)
  lo : oo < h.next
  bo : base ≤ oo
  acc : (s = nilS ∧ i = 0) ∨ ∃ b, Grown encI 3 h b s (matN (i * C) (pickF C g w)) ∧ base ≤ b ∧ b < h.next ∧ b ≠ oo
theorem mpick_l0 (D : CallF) {BA sp base yb} (hsp : spOk sp 1 = true) (hC1 : 0 < C) (hC : C ≤ 255) (hR : R ≤ 255) (hl : rows.length ≤ 255) (Rr : Row encI H0 rs rows)
    (ca : H0.get oa = some (.cells (mcell R C (whole BA (R * C) sp)) 51 true 0)) (y : H0.get yb = some (.cells (mcell 0 0 nilS) 51 true 0)) (bA : H0.get BA = some (outB encI 3 (matN (R * C) g)))
    (hbase : base ≤ H0.next) (l1 : oa < base) (l2 : yb < base) (l3 : BA < base) (l4 : ∀ a, rs.a = some a → a.block < base) : ∀ (m i : Nat) (h : AHeap) (s : Slc), i + m = rows.length → PK H0 base oo C rows.length (natOf rows) g i h s →
    ∃ h', Chg (fun x => base ≤ x) H0 h' ∧ if (rows.drop i).all (okR R) = true then ∃ s', PK H0 base oo C rows.length (natOf rows) g rows.length h' s' ∧ ∀ J bot, iterK bot (m + 1) (matrix_Pick_l0b k0 D J) (some ⟨oa, 0, none⟩) (some ⟨yb, 0, none⟩) (some ⟨oo, 0, none⟩) rs (rows.length : Int) (i : Int) h = J (some ⟨yb, 0, none⟩) (some ⟨oo, 0, none⟩) h'
      else ∀ J bot, iterK bot (m + 1) (matrix_Pick_l0b k0 D J) (some ⟨oa, 0, none⟩) (some ⟨yb, 0, none⟩) (some ⟨oo, 0, none⟩) rs (rows.length : Int) (i : Int) h = some (((0, 0, nilS), 1), h') := by
  intro m
  have hs : R * C ≤ 100000 := Nat.le_trans (Nat.mul_le_mul hR hC) (by omega)
  have hs2 : rows.length * C ≤ 100000 := Nat.le_trans (Nat.mul_le_mul hl hC) (by omega)
  induction m with
  | zero =>
    intro i h s hi P
    obtain rfl : i = rows.length := by omega
    refine ⟨h, P.ch, ?_⟩
    rw [List.drop_length, if_pos (show (([] : List Int).all (okR R)) = true from rfl)]
    refine ⟨s, P, fun J bot => ?_⟩
    rw [iterK_s, matrix_Pick_l0b]
    exact ifn (by rw [decide_eq_true_eq]; omega) rfl
  | succ m ih =>
    intro i h s hi P
    have hi' : i < rows.length := by omega
    obtain ⟨x, hx⟩ := isome (l := rows) (i := i) (by omega)
    have old : ∀ {h : AHeap} {b : Nat} {B : ABlk}, Chg (fun x => base ≤ x) H0 h → H0.get b = some B → b < base → h.get b = some B := fun c hb lb => by rw [c.oth _ (by omega) (by omega)]; exact hb
    have rr := Rr.chg P.ch (fun a ha => by have := l4 a ha; omega)
    obtain ⟨q, hq, hld⟩ := rr.ldI hx
    have ca0 := old P.ch ca l1
    have y0 := old P.ch y l2
    rw [all_at hx]
    by_cases c1 : x < 0
    · refine ⟨h, P.ch, ?_⟩
      rw [if_neg (by simp [okR, c1])]
      intro J bot
      rw [iterK_s, matrix_Pick_l0b]
      refine ifp (by rw [decide_eq_true_eq]; omega) ?_
      refine bnd hq (bnd hld ?_)
      with_reducible repeat' first | refine sbn ?_ | refine bnd (ldM3 (by assumption)) ?_ | refine bnd (decM3 _ _ _) ?_ | refine bnd (ldI0 (by assumption)) ?_ | refine bnd (ldI1 (by assumption)) ?_ | refine bnd (ldL2 (by assumption)) ?_ | refine jn ?_ | refine gp1 ?_ ?_ | refine gp2 ?_ ?_ ?_ | refine gp3 ?_ ?_ ?_ ?_ | refine bnd (ldZ0 (by assumption)) ?_ | refine bnd (ldZ1 (by assumption)) ?_ | refine bnd (ldZ2 (by assumption)) ?_ | rfl
      refine ifp (by rw [decide_eq_true_eq]; exact c1) (ifp rfl ?_)
      exact zfin y0 fun x h => some ((x, (1 : Int)), h)
    · by_cases c2 : x ≥ (R : Int)
      · refine ⟨h, P.ch, ?_⟩
        rw [if_neg (by simp [okR, c2])]
        intro J bot
        rw [iterK_s, matrix_Pick_l0b]
        refine ifp (by rw [decide_eq_true_eq]; omega) ?_
        refine bnd hq (bnd hld ?_)
        with_reducible repeat' first | refine sbn ?_ | refine bnd (ldM3 (by assumption)) ?_ | refine bnd (decM3 _ _ _) ?_ | refine bnd (ldI0 (by assumption)) ?_ | refine bnd (ldI1 (by assumption)) ?_ | refine bnd (ldL2 (by assumption)) ?_ | refine jn ?_ | refine gp1 ?_ ?_ | refine gp2 ?_ ?_ ?_ | refine gp3 ?_ ?_ ?_ ?_ | refine bnd (ldZ0 (by assumption)) ?_ | refine bnd (ldZ1 (by assumption)) ?_ | refine bnd (ldZ2 (by assumption)) ?_ | rfl
        refine ifn (by rw [decide_eq_true_eq]; exact c1) ?_
        with_reducible repeat' first | refine sbn ?_ | refine bnd (ldM3 (by assumption)) ?_ | refine bnd (decM3 _ _ _) ?_ | refine bnd (ldI0 (by assumption)) ?_ | refine bnd (ldI1 (by assumption)) ?_ | refine bnd (ldL2 (by assumption)) ?_ | refine jn ?_ | refine gp1 ?_ ?_ | refine gp2 ?_ ?_ ?_ | refine gp3 ?_ ?_ ?_ ?_ | refine bnd (ldZ0 (by assumption)) ?_ | refine bnd (ldZ1 (by assumption)) ?_ | refine bnd (ldZ2 (by assumption)) ?_ | rfl
        refine ifp (by rw [decide_eq_true_eq]; exact c2) ?_
        exact zfin y0 fun x h => some ((x, (1 : Int)), h)
      · obtain ⟨w, hw⟩ : ∃ w : Nat, x = w := ⟨x.toNat, by omega⟩
        subst hw
        have hwR : w < R := by omega
        have wn : natOf rows i = w := by unfold natOf; rw [hx]; simp
        obtain ⟨h1, e1, k1, n1⟩ := row_specS k0 D (r := R) (c := C) (b := BA) (i := w) hsp h hwR hC1 hs
        have ch1 := P.ch.trans (Chg.keeps k1)
        have co1 : h1.get oo = some (.cells (mcell rows.length C s) 51 true 0) := by rw [k1.oth _ P.lo (fun f => f)]; exact P.co
        have lo1 : oo < h1.next := by have := P.lo; omega
        have rw1 := row_row (old ch1 bA l3) (by have := ch1.nx; omega) hwR
        have rd := Row.rdS rw1
        have ylen : (matN C fun x => g (w * C + x)).length = C := mat_length _ _
        have app : ∃ h2 s2 b2, appendA 1 8 3 h1 s ((matN C fun x => g (w * C + x)).map encI) C = some (s2, h2) ∧ Chg (fun x => base ≤ x) H0 h2 ∧ h2.get oo = some (.cells (mcell rows.length C s) 51 true 0) ∧ oo < h2.next ∧
            Grown encI 3 h2 b2 s2 (matN ((i + 1) * C) (pickF C g (natOf rows))) ∧ base ≤ b2 ∧ b2 < h2.next ∧ b2 ≠ oo := by
          have hrow : matN (i * C) (pickF C g (natOf rows)) ++ matN C (fun x => g (w * C + x)) = matN ((i + 1) * C) (pickF C g (natOf rows)) := matN_row fun t ht => by rw [pickF_at ht, wn]
          have hle : i * C + C ≤ rows.length * C := le_row hi'
          rcases P.acc with ⟨hs', hi0⟩ | ⟨b, G, hb1, hb2, hb3⟩
          · have ap := copy_nil (h := h1) (xs := matN C fun x => g (w * C + x)) (by omega) (by omega)
            rw [ylen] at ap
            refine ⟨_, _, h1.next, by rw [hs']; exact ap, ch1.trans (Chg.new _ _), by rw [AHeap.get_new, if_neg (by omega)]; exact co1, by simp; omega, ?_, by have := ch1.nx; omega, by simp, by omega⟩
            rw [← hrow, hi0, Nat.zero_mul]
            have G := Grown.of (enc := encI) (e := 3) (h := h1) (xs := matN C fun x => g (w * C + x)) (matN_ne (by omega))
            rw [ylen] at G
            exact G
          · have G1 := G.chg hb2 k1 (fun f => f)
            have gl : (matN (i * C) (pickF C g (natOf rows))).length = i * C := mat_length _ _
            have ap := G1.append (bytes := 8) (ys := matN C fun x => g (w * C + x)) (fun _ => rfl) (matN_ne (by omega)) (by rw [ylen, gl]; omega) (by omega)
            rw [ylen] at ap
            refine ⟨_, _, h1.next, ap, ch1.trans (Chg.kill_new (.inr hb1)), ?_, by simp; omega, ?_, by have := ch1.nx; omega, by simp, by omega⟩
            · show (if oo = h1.next then _ else if oo = b then none else h1.get oo) = _
              rw [if_neg (by omega), if_neg (fun e => hb3 e.symm)]
              exact co1
            · rw [← hrow]
              refine ⟨rfl, by simp, fun e => ?_⟩
              have := congrArg List.length e
              rw [List.length_append, ylen] at this
              simp at this
              omega
        obtain ⟨h2, s2, b2, ap, ch2, co2, lo2, G2, hb1, hb2, hb3⟩ := app
        obtain ⟨h3, hh3⟩ : ∃ h3, h3 = h2.set oo (.cells (mcell rows.length C s2) 51 true 0) := ⟨_, rfl⟩
        have st : st1 ⟨oo, 2, none⟩ (.slice s2.a s2.len s2.cap) h2 = some h3 := by rw [hh3]; exact stS2 co2
        have cset : Chg (· = oo) h2 h3 := hh3 ▸ Chg.set (.inr rfl)
        obtain ⟨h', c', e'⟩ := ih (i + 1) h3 s2 (by omega) ⟨ch2.trans (cset.wk fun x _ e => by have e : x = oo := e; rw [e]; exact P.bo), by rw [hh3]; simp, Nat.lt_of_lt_of_le lo2 cset.nx, P.bo, .inr ⟨b2, G2.chg hb2 cset hb3, hb1, Nat.lt_of_lt_of_le hb2 cset.nx, hb3⟩⟩
        have okw : okR R (w : Int) = true := by simp [okR]; omega
        have step : ∀ J bot, iterK bot (m + 1 + 1) (matrix_Pick_l0b k0 D J) (some ⟨oa, 0, none⟩) (some ⟨yb, 0, none⟩) (some ⟨oo, 0, none⟩) rs (rows.length : Int) (i : Int) h =
            iterK bot (m + 1) (matrix_Pick_l0b k0 D J) (some ⟨oa, 0, none⟩) (some ⟨yb, 0, none⟩) (some ⟨oo, 0, none⟩) rs (rows.length : Int) ((i + 1 : Nat) : Int) h3 := fun J bot => by
          have co0 := P.co
          rw [iterK_s, matrix_Pick_l0b]
          refine ifp (by rw [decide_eq_true_eq]; omega) ?_
          refine bnd hq (bnd hld ?_)
          with_reducible repeat' first | refine sbn ?_ | refine bnd (ldM3 (by assumption)) ?_ | refine bnd (decM3 _ _ _) ?_ | refine bnd (ldI0 (by assumption)) ?_ | refine bnd (ldI1 (by assumption)) ?_ | refine bnd (ldL2 (by assumption)) ?_ | refine jn ?_ | refine gp1 ?_ ?_ | refine gp2 ?_ ?_ ?_ | refine gp3 ?_ ?_ ?_ ?_ | refine bnd (ldZ0 (by assumption)) ?_ | refine bnd (ldZ1 (by assumption)) ?_ | refine bnd (ldZ2 (by assumption)) ?_ | rfl
          refine ifn (by rw [decide_eq_true_eq]; exact c1) ?_
          with_reducible repeat' first | refine sbn ?_ | refine bnd (ldM3 (by assumption)) ?_ | refine bnd (decM3 _ _ _) ?_ | refine bnd (ldI0 (by assumption)) ?_ | refine bnd (ldI1 (by assumption)) ?_ | refine bnd (ldL2 (by assumption)) ?_ | refine jn ?_ | refine gp1 ?_ ?_ | refine gp2 ?_ ?_ ?_ | refine gp3 ?_ ?_ ?_ ?_ | refine bnd (ldZ0 (by assumption)) ?_ | refine bnd (ldZ1 (by assumption)) ?_ | refine bnd (ldZ2 (by assumption)) ?_ | rfl
          refine ifn (by rw [decide_eq_true_eq]; exact c2) ?_
          with_reducible repeat' first | refine sbn ?_ | refine bnd (ldM3 (by assumption)) ?_ | refine bnd (decM3 _ _ _) ?_ | refine bnd (ldI0 (by assumption)) ?_ | refine bnd (ldI1 (by assumption)) ?_ | refine bnd (ldL2 (by assumption)) ?_ | refine jn ?_ | refine gp1 ?_ ?_ | refine gp2 ?_ ?_ ?_ | refine gp3 ?_ ?_ ?_ ?_ | refine bnd (ldZ0 (by assumption)) ?_ | refine bnd (ldZ1 (by assumption)) ?_ | refine bnd (ldZ2 (by assumption)) ?_ | rfl
          refine bnd e1 ?_
          with_reducible repeat' first | refine sbn ?_ | refine bnd (ldM3 (by assumption)) ?_ | refine bnd (decM3 _ _ _) ?_ | refine bnd (ldI0 (by assumption)) ?_ | refine bnd (ldI1 (by assumption)) ?_ | refine bnd (ldL2 (by assumption)) ?_ | refine jn ?_ | refine gp1 ?_ ?_ | refine gp2 ?_ ?_ ?_ | refine gp3 ?_ ?_ ?_ ?_ | refine bnd (ldZ0 (by assumption)) ?_ | refine bnd (ldZ1 (by assumption)) ?_ | refine bnd (ldZ2 (by assumption)) ?_ | rfl
          refine bnd rd (bnd ap ?_)
          with_reducible repeat' first | refine sbn ?_ | refine bnd (ldM3 (by assumption)) ?_ | refine bnd (decM3 _ _ _) ?_ | refine bnd (ldI0 (by assumption)) ?_ | refine bnd (ldI1 (by assumption)) ?_ | refine bnd (ldL2 (by assumption)) ?_ | refine jn ?_ | refine gp1 ?_ ?_ | refine gp2 ?_ ?_ ?_ | refine gp3 ?_ ?_ ?_ ?_ | refine bnd (ldZ0 (by assumption)) ?_ | refine bnd (ldZ1 (by assumption)) ?_ | refine bnd (ldZ2 (by assumption)) ?_ | rfl
          refine bnd st ?_
          rw [w1 (by omega)]
        refine ⟨h', c', ?_⟩
        rw [okw, Bool.true_and]
        by_cases call : (rows.drop (i + 1)).all (okR R) = true
        · rw [if_pos call] at e' ⊢
          obtain ⟨s', P', e'⟩ := e'
          exact ⟨s', P', fun J bot => (step J bot).trans (e' J bot)⟩
        · rw [if_neg call] at e' ⊢
          exact fun J bot => (step J bot).trans (e' J bot)
end
theorem rpick_spec {k0 : Nat} (hk : 200000 ≤ k0) (D : CallF) {h : AHeap} {r c : Int} {s rs : Slc} {xs rows : List Int} (I : Row encI h s xs) (hl : xs.length ≤ 100000) (Rr : Row encI h rs rows) :
    ∃ h' res, ref04_Pick k0 D (r, c, s) rs h = some (res, h') ∧ Out h h' res (pickP r c xs rows) ∧ Keeps h h' := by
  obtain ⟨g1, hg1⟩ : ∃ g1, g1 = h.new (.cells [.int .i64 r, .int .i64 c, .slice s.a s.len s.cap] 54 true 0) := ⟨_, rfl⟩
  have k1 : Keeps h g1 := hg1 ▸ Keeps.new h _
  have n1 : g1.next = h.next + 1 := by rw [hg1]; rfl
  obtain ⟨g2, hg2⟩ : ∃ g2, g2 = g1.new (.cells [.int .i64 0, .int .i64 0, .slice none 0 0] 54 true 0) := ⟨_, rfl⟩
  have k2 : Keeps g1 g2 := hg2 ▸ Keeps.new g1 _
  have n2 : g2.next = g1.next + 1 := by rw [hg2]; rfl
  have k02 := k1.trans k2
  have a2 : g2.get h.next = some (.cells (mcell r c s) 54 true 0) := by rw [k2.oth _ (by omega) (fun f => f), hg1]; simp [mcell]
  have y2 : g2.get g1.next = some (.cells (mcell 0 0 nilS) 54 true 0) := by rw [hg2]; simp [mcell, nilS]
  obtain ⟨g5, e5, k5⟩ := rcheck_spec (k0 := k0) D (r := r) (c := c) (I.keeps k02) (by omega) (by omega)
  have k05 := k02.trans k5
  have a5 : g5.get h.next = some (.cells (mcell r c s) 54 true 0) := by rw [k5.oth _ (by omega) (fun f => f)]; exact a2
  have y5 : g5.get g1.next = some (.cells (mcell 0 0 nilS) 54 true 0) := by rw [k5.oth _ (by omega) (fun f => f)]; exact y2
  have nx5 := k5.nx
  have R5 := Rr.keeps k05
  by_cases ec : chk r c xs = 0
  · by_cases el : rows.length = 0 ∨ rows.length > 255
    · refine ⟨g5, ((0, 0, nilS), 1), ?_, ?_, k05⟩
      · unfold ref04_Pick
        dsimp only
        rw [← hg1, ← hg2]
        with_reducible repeat' first | refine sbn ?_ | refine bnd (ldM3 (by assumption)) ?_ | refine bnd (decM3 _ _ _) ?_ | refine bnd (ldI0 (by assumption)) ?_ | refine bnd (ldI1 (by assumption)) ?_ | refine bnd (ldL2 (by assumption)) ?_ | refine jn ?_ | refine gp1 ?_ ?_ | refine gp2 ?_ ?_ ?_ | refine gp3 ?_ ?_ ?_ ?_ | refine bnd (ldZ0 (by assumption)) ?_ | refine bnd (ldZ1 (by assumption)) ?_ | refine bnd (ldZ2 (by assumption)) ?_ | rfl
        refine bnd e5 (ifn (by simp [ec]) ?_)
        with_reducible repeat' first | refine sbn ?_ | refine bnd (ldM3 (by assumption)) ?_ | refine bnd (decM3 _ _ _) ?_ | refine bnd (ldI0 (by assumption)) ?_ | refine bnd (ldI1 (by assumption)) ?_ | refine bnd (ldL2 (by assumption)) ?_ | refine jn ?_ | refine gp1 ?_ ?_ | refine gp2 ?_ ?_ ?_ | refine gp3 ?_ ?_ ?_ ?_ | refine bnd (ldZ0 (by assumption)) ?_ | refine bnd (ldZ1 (by assumption)) ?_ | refine bnd (ldZ2 (by assumption)) ?_ | rfl
        rw [Rr.1]
        by_cases e0 : rows.length = 0
        · refine ifp (by rw [decide_eq_true_eq]; omega) (ifp rfl ?_)
          exact zfin y5 fun x h => some ((x, (1 : Int)), h)
        · refine ifn (by rw [decide_eq_true_eq]; omega) (ifp (by rw [decide_eq_true_eq]; omega) ?_)
          exact zfin y5 fun x h => some ((x, (1 : Int)), h)
      · unfold pickP
        rw [if_neg (fun h => h ec), if_pos el]
        exact Out.no _
    · obtain ⟨R, C, g, rfl, rfl, hR1, hR2, hC1, hC2, hxs, hel⟩ := chk_ok ec
      have lC : ∀ J, rows.length ≤ 255 → iterK (fun _ _ _ _ _ => none) k0 (ref04_Pick_l2b k0 D J) rs (some ⟨h.next, 0, none⟩) (some ⟨g1.next, 0, none⟩) 0 g5 = if rows.all (okR R) = true then J rs (some ⟨h.next, 0, none⟩) (some ⟨g1.next, 0, none⟩) g5 else some (((0, 0, nilS), 1), g5) := fun J hl => by
        obtain ⟨bot, hbot⟩ := iterK_of (fun _ _ _ _ _ => none) (ref04_Pick_l2b k0 D J) (show rows.length + 1 ≤ k0 by omega)
        rw [hbot]
        exact rpick_l2 (k0 := k0) (C := C) (sA := s) D R5 hl a5 y5 J rows.length 0 (by omega) bot
      by_cases call : rows.all (okR R) = true
      · have lA := row_lt I (by rw [hxs]; exact matN_ne (by have := Nat.mul_pos hR1 hC1; omega))
        have lR := row_lt Rr (fun e => by rw [e] at el; simp at el)
        have I5 := I.keeps k05
        rw [hxs] at I5
        have hN2 : rows.length * C ≤ 100000 := Nat.le_trans (Nat.mul_le_mul (show rows.length ≤ 255 by omega) hC2) (by omega)
        obtain ⟨g6, e6, k6, n6, b6⟩ := zero_spec k0 D rows.length C g5 hN2
        obtain ⟨g7, st7, k7, n7, b7⟩ := mvar (h := g6) (e := 54) (r := (rows.length : Int)) (c := (C : Int)) (s := whole (g5.next + 1) (rows.length * C))
        have k57 := k6.trans k7
        have k07 := k05.trans k57
        have o7 : Mx g7 (g5.next + 1) (rows.length * C) (fun _ => 0) := by
          have q : Mx g6 (g5.next + 1) (rows.length * C) (fun _ => 0) := ⟨b6, by omega, fun _ _ => by omega⟩
          exact q.keeps k7
        have A7 : In1 g7 (g5.next + 1) h.next R C s 54 g := ⟨I5.keeps k57, by rw [k57.oth _ (by omega) (fun f => f)]; exact a5, by omega, by omega, fun a ha => by have := lA a ha; omega, hel⟩
        have Z7 : Ou1 g7 (g5.next + 1) g6.next rows.length C 54 (pf (0 * C) (pickF C g (natOf rows))) g7 := ⟨o7.congr fun t _ => by unfold pf; rw [Nat.zero_mul, if_neg (Nat.not_lt_zero _)], b7, by omega, by omega, .refl _ _⟩
        obtain ⟨g8, c8, Z8, e8⟩ := rpick_l0 (show 1000 ≤ k0 by omega) D hC2 hR2 (by omega) call (fun a ha => by have := lR a ha; omega) (some ⟨g1.next, 0, none⟩) rows.length 0 g7 (by omega) (R5.keeps k57) A7 Z7
        have nx8 := c8.nx
        have y8 : g8.get g1.next = some (.cells (mcell 0 0 nilS) 54 true 0) := by
          rw [c8.oth _ (by omega) (by omega), k57.oth _ (by omega) (fun f => f)]; exact y5
        have co8 := Z8.cel
        have c08 : Keeps h g8 := k07.beh c8 fun x hx e => by have e : x = g5.next + 1 := e; omega
        refine ⟨g8.set g1.next (.cells (mcell rows.length C (whole (g5.next + 1) (rows.length * C))) 54 true 0), ((rows.length, C, whole (g5.next + 1) (rows.length * C)), 0), ?_, ?_, c08.beh (T := (· = g1.next)) (Chg.set (.inr rfl)) fun x hx e => by
          have e : x = g1.next := e
          omega⟩
        · unfold ref04_Pick
          dsimp only
          rw [← hg1, ← hg2]
          with_reducible repeat' first | refine sbn ?_ | refine bnd (ldM3 (by assumption)) ?_ | refine bnd (decM3 _ _ _) ?_ | refine bnd (ldI0 (by assumption)) ?_ | refine bnd (ldI1 (by assumption)) ?_ | refine bnd (ldL2 (by assumption)) ?_ | refine jn ?_ | refine gp1 ?_ ?_ | refine gp2 ?_ ?_ ?_ | refine gp3 ?_ ?_ ?_ ?_ | refine bnd (ldZ0 (by assumption)) ?_ | refine bnd (ldZ1 (by assumption)) ?_ | refine bnd (ldZ2 (by assumption)) ?_ | rfl
          refine bnd e5 (ifn (by simp [ec]) ?_)
          with_reducible repeat' first | refine sbn ?_ | refine bnd (ldM3 (by assumption)) ?_ | refine bnd (decM3 _ _ _) ?_ | refine bnd (ldI0 (by assumption)) ?_ | refine bnd (ldI1 (by assumption)) ?_ | refine bnd (ldL2 (by assumption)) ?_ | refine jn ?_ | refine gp1 ?_ ?_ | refine gp2 ?_ ?_ ?_ | refine gp3 ?_ ?_ ?_ ?_ | refine bnd (ldZ0 (by assumption)) ?_ | refine bnd (ldZ1 (by assumption)) ?_ | refine bnd (ldZ2 (by assumption)) ?_ | rfl
          rw [Rr.1]
          refine ifn (by rw [decide_eq_true_eq]; omega) (ifn (by rw [decide_eq_true_eq]; omega) ?_)
          with_reducible repeat' first | refine sbn ?_ | refine bnd (ldM3 (by assumption)) ?_ | refine bnd (decM3 _ _ _) ?_ | refine bnd (ldI0 (by assumption)) ?_ | refine bnd (ldI1 (by assumption)) ?_ | refine bnd (ldL2 (by assumption)) ?_ | refine jn ?_ | refine gp1 ?_ ?_ | refine gp2 ?_ ?_ ?_ | refine gp3 ?_ ?_ ?_ ?_ | refine bnd (ldZ0 (by assumption)) ?_ | refine bnd (ldZ1 (by assumption)) ?_ | refine bnd (ldZ2 (by assumption)) ?_ | rfl
          unfold ref04_Pick_l2
          rw [lC _ (by omega), if_pos call]
          with_reducible repeat' first | refine sbn ?_ | refine bnd (ldM3 (by assumption)) ?_ | refine bnd (decM3 _ _ _) ?_ | refine bnd (ldI0 (by assumption)) ?_ | refine bnd (ldI1 (by assumption)) ?_ | refine bnd (ldL2 (by assumption)) ?_ | refine jn ?_ | refine gp1 ?_ ?_ | refine gp2 ?_ ?_ ?_ | refine gp3 ?_ ?_ ?_ ?_ | refine bnd (ldZ0 (by assumption)) ?_ | refine bnd (ldZ1 (by assumption)) ?_ | refine bnd (ldZ2 (by assumption)) ?_ | rfl
          rw [Rr.1]
          refine bnd e6 (bnd st7 ?_)
          with_reducible repeat' first | refine sbn ?_ | refine bnd (ldM3 (by assumption)) ?_ | refine bnd (decM3 _ _ _) ?_ | refine bnd (ldI0 (by assumption)) ?_ | refine bnd (ldI1 (by assumption)) ?_ | refine bnd (ldL2 (by assumption)) ?_ | refine jn ?_ | refine gp1 ?_ ?_ | refine gp2 ?_ ?_ ?_ | refine gp3 ?_ ?_ ?_ ?_ | refine bnd (ldZ0 (by assumption)) ?_ | refine bnd (ldZ1 (by assumption)) ?_ | refine bnd (ldZ2 (by assumption)) ?_ | rfl
          unfold ref04_Pick_l0
          obtain ⟨bot, hbot⟩ := iterK_of (fun _ _ _ _ _ _ => none) (ref04_Pick_l0b k0 D _) (show rows.length + 1 ≤ k0 by omega)
          rw [hbot]
          refine (e8 _ bot).trans ?_
          exact yfin co8 y8 fun x h => some ((x, (0 : Int)), h)
        · unfold pickP
          rw [if_neg (fun h => h ec), if_neg el, if_pos (show rows.all (okR (R : Int).toNat) = true from call)]
          simp only [Int.toNat_natCast]
          have u9 : Mx (g8.set g1.next (.cells (mcell rows.length C (whole (g5.next + 1) (rows.length * C))) 54 true 0)) (g5.next + 1) (rows.length * C) (pickF C g (natOf rows)) := Z8.o.chg (S := (· = g1.next)) (Chg.set (.inr rfl)) (by omega)
          refine ⟨rfl, rfl, rfl, ?_, whole_off (by omega)⟩
          refine (u9.congr fun t ht => ?_).inM (sp := some 0) rfl
          have hd := (Nat.div_lt_iff_lt_mul hC1).2 ht
          have hm := Nat.mod_lt t hC1
          have := le_row (c := C) (okR_nat call hd).2
          unfold pickF
          rw [hxs, natOf_mat (by omega)]
      · refine ⟨g5, ((0, 0, nilS), 1), ?_, ?_, k05⟩
        · unfold ref04_Pick
          dsimp only
          rw [← hg1, ← hg2]
          with_reducible repeat' first | refine sbn ?_ | refine bnd (ldM3 (by assumption)) ?_ | refine bnd (decM3 _ _ _) ?_ | refine bnd (ldI0 (by assumption)) ?_ | refine bnd (ldI1 (by assumption)) ?_ | refine bnd (ldL2 (by assumption)) ?_ | refine jn ?_ | refine gp1 ?_ ?_ | refine gp2 ?_ ?_ ?_ | refine gp3 ?_ ?_ ?_ ?_ | refine bnd (ldZ0 (by assumption)) ?_ | refine bnd (ldZ1 (by assumption)) ?_ | refine bnd (ldZ2 (by assumption)) ?_ | rfl
          refine bnd e5 (ifn (by simp [ec]) ?_)
          with_reducible repeat' first | refine sbn ?_ | refine bnd (ldM3 (by assumption)) ?_ | refine bnd (decM3 _ _ _) ?_ | refine bnd (ldI0 (by assumption)) ?_ | refine bnd (ldI1 (by assumption)) ?_ | refine bnd (ldL2 (by assumption)) ?_ | refine jn ?_ | refine gp1 ?_ ?_ | refine gp2 ?_ ?_ ?_ | refine gp3 ?_ ?_ ?_ ?_ | refine bnd (ldZ0 (by assumption)) ?_ | refine bnd (ldZ1 (by assumption)) ?_ | refine bnd (ldZ2 (by assumption)) ?_ | rfl
          rw [Rr.1]
          refine ifn (by rw [decide_eq_true_eq]; omega) (ifn (by rw [decide_eq_true_eq]; omega) ?_)
          with_reducible repeat' first | refine sbn ?_ | refine bnd (ldM3 (by assumption)) ?_ | refine bnd (decM3 _ _ _) ?_ | refine bnd (ldI0 (by assumption)) ?_ | refine bnd (ldI1 (by assumption)) ?_ | refine bnd (ldL2 (by assumption)) ?_ | refine jn ?_ | refine gp1 ?_ ?_ | refine gp2 ?_ ?_ ?_ | refine gp3 ?_ ?_ ?_ ?_ | refine bnd (ldZ0 (by assumption)) ?_ | refine bnd (ldZ1 (by assumption)) ?_ | refine bnd (ldZ2 (by assumption)) ?_ | rfl
          unfold ref04_Pick_l2
          rw [lC _ (by omega), if_neg call]
        · unfold pickP
          rw [if_neg (fun h => h ec), if_neg el, if_neg (show ¬ rows.all (okR (R : Int).toNat) = true from call)]
          exact Out.no _
  · refine ⟨g5, ((0, 0, nilS), chk r c xs), ?_, ?_, k05⟩
    · unfold ref04_Pick
      dsimp only
      rw [← hg1, ← hg2]
      with_reducible repeat' first | refine sbn ?_ | refine bnd (ldM3 (by assumption)) ?_ | refine bnd (decM3 _ _ _) ?_ | refine bnd (ldI0 (by assumption)) ?_ | refine bnd (ldI1 (by assumption)) ?_ | refine bnd (ldL2 (by assumption)) ?_ | refine jn ?_ | refine gp1 ?_ ?_ | refine gp2 ?_ ?_ ?_ | refine gp3 ?_ ?_ ?_ ?_ | refine bnd (ldZ0 (by assumption)) ?_ | refine bnd (ldZ1 (by assumption)) ?_ | refine bnd (ldZ2 (by assumption)) ?_ | rfl
      refine bnd e5 (ifp (by simpa using ec) ?_)
      exact zfin y5 fun x h => some ((x, chk r c xs), h)
    · unfold pickP
      rw [if_pos ec]
      exact Out.no _
theorem mpick_spec {k0 : Nat} (hk : 200000 ≤ k0) (D : CallF) {h : AHeap} {r c : Int} {s rs : Slc} {xs rows : List Int} (I : InM h s xs) (hl : xs.length ≤ 100000) (Rr : Row encI h rs rows) :
    ∃ h' res, matrix_Pick k0 D (r, c, s) rs h = some (res, h') ∧ Out h h' res (pickP r c xs rows) ∧ Keeps h h' := by
  obtain ⟨g1, hg1⟩ : ∃ g1, g1 = h.new (.cells [.int .i64 r, .int .i64 c, .slice s.a s.len s.cap] 51 true 0) := ⟨_, rfl⟩
  have k1 : Keeps h g1 := hg1 ▸ Keeps.new h _
  have n1 : g1.next = h.next + 1 := by rw [hg1]; rfl
  obtain ⟨g2, hg2⟩ : ∃ g2, g2 = g1.new (.cells [.int .i64 0, .int .i64 0, .slice none 0 0] 51 true 0) := ⟨_, rfl⟩
  have k2 : Keeps g1 g2 := hg2 ▸ Keeps.new g1 _
  have n2 : g2.next = g1.next + 1 := by rw [hg2]; rfl
  have k02 := k1.trans k2
  have a2 : g2.get h.next = some (.cells (mcell r c s) 51 true 0) := by rw [k2.oth _ (by omega) (fun f => f), hg1]; simp [mcell]
  have y2 : g2.get g1.next = some (.cells (mcell 0 0 nilS) 51 true 0) := by rw [hg2]; simp [mcell, nilS]
  obtain ⟨g5, e5, k5⟩ := check_spec (k0 := k0) D (r := r) (c := c) (I.keeps k02).row (by omega) (by omega)
  have k05 := k02.trans k5
  have a5 : g5.get h.next = some (.cells (mcell r c s) 51 true 0) := by rw [k5.oth _ (by omega) (fun f => f)]; exact a2
  have y5 : g5.get g1.next = some (.cells (mcell 0 0 nilS) 51 true 0) := by rw [k5.oth _ (by omega) (fun f => f)]; exact y2
  have nx5 := k5.nx
  have R5 := Rr.keeps k05
  by_cases ec : chk r c xs = 0
  · by_cases el : rows.length = 0 ∨ rows.length > 255
    · refine ⟨g5, ((0, 0, nilS), 1), ?_, ?_, k05⟩
      · unfold matrix_Pick
        dsimp only
        rw [← hg1, ← hg2]
        with_reducible repeat' first | refine sbn ?_ | refine bnd (ldM3 (by assumption)) ?_ | refine bnd (decM3 _ _ _) ?_ | refine bnd (ldI0 (by assumption)) ?_ | refine bnd (ldI1 (by assumption)) ?_ | refine bnd (ldL2 (by assumption)) ?_ | refine jn ?_ | refine gp1 ?_ ?_ | refine gp2 ?_ ?_ ?_ | refine gp3 ?_ ?_ ?_ ?_ | refine bnd (ldZ0 (by assumption)) ?_ | refine bnd (ldZ1 (by assumption)) ?_ | refine bnd (ldZ2 (by assumption)) ?_ | rfl
        refine bnd e5 (ifn (by simp [ec]) ?_)
        with_reducible repeat' first | refine sbn ?_ | refine bnd (ldM3 (by assumption)) ?_ | refine bnd (decM3 _ _ _) ?_ | refine bnd (ldI0 (by assumption)) ?_ | refine bnd (ldI1 (by assumption)) ?_ | refine bnd (ldL2 (by assumption)) ?_ | refine jn ?_ | refine gp1 ?_ ?_ | refine gp2 ?_ ?_ ?_ | refine gp3 ?_ ?_ ?_ ?_ | refine bnd (ldZ0 (by assumption)) ?_ | refine bnd (ldZ1 (by assumption)) ?_ | refine bnd (ldZ2 (by assumption)) ?_ | rfl
        rw [Rr.1]
        by_cases e0 : rows.length = 0
        · refine ifp (by simp [e0]) (ifp rfl ?_)
          exact zfin y5 fun x h => some ((x, (1 : Int)), h)
        · refine ifn (ne_nz e0) (ifp (by rw [decide_eq_true_eq]; omega) ?_)
          exact zfin y5 fun x h => some ((x, (1 : Int)), h)
      · unfold pickP
        rw [if_neg (fun h => h ec), if_pos el]
        exact Out.no _
    · obtain ⟨R, C, g, rfl, rfl, hR1, hR2, hC1, hC2, hxs, hel⟩ := chk_ok ec
      have lA := row_lt I.row (by rw [hxs]; exact matN_ne (by have := Nat.mul_pos hR1 hC1; omega))
      have lR := row_lt Rr (fun e => by rw [e] at el; simp at el)
      have I5 := I.keeps k05
      rw [hxs] at I5
      obtain ⟨BA, sp, rfl, hsp, ma⟩ := I5.mx (by have := Nat.mul_pos hR1 hC1; omega) hel
      obtain ⟨g7, st7, k7, n7, b7⟩ := mvar (h := g5) (e := 51) (r := (rows.length : Int)) (c := (C : Int)) (s := nilS)
      have P7 : PK g7 g5.next g5.next C rows.length (natOf rows) g 0 g7 nilS := ⟨.refl _ _, b7, by omega, Nat.le_refl _, .inl ⟨rfl, rfl⟩⟩
      have la5 : BA < h.next := lA _ rfl
      obtain ⟨g8, c8, e8⟩ := mpick_l0 (k0 := k0) (oo := g5.next) (oa := h.next) (R := R) D hsp hC1 hC2 hR2 (by omega) (R5.keeps k7) (by rw [k7.oth _ (by omega) (fun f => f)]; exact a5) (yb := g1.next) (by rw [k7.oth _ (by omega) (fun f => f)]; exact y5) (ma.keeps k7).blk (base := g5.next) (by omega) (by omega) (by omega) (by omega)
        (fun a ha => by have := lR a ha; omega) rows.length 0 g7 nilS (by omega) P7
      have nx8 := c8.nx
      have y8 : g8.get g1.next = some (.cells (mcell 0 0 nilS) 51 true 0) := by
        rw [c8.oth _ (by omega) (by omega), k7.oth _ (by omega) (fun f => f)]; exact y5
      have c08 : Keeps h g8 := (k05.trans k7).beh c8 fun x hx e => by have e : g5.next ≤ x := e; omega
      rw [List.drop_zero] at e8
      by_cases call : rows.all (okR R) = true
      · rw [if_pos call] at e8
        obtain ⟨s', P', e8⟩ := e8
        have co8 := P'.co
        have nz : rows.length * C ≠ 0 := by
          have := Nat.mul_pos (show 0 < rows.length by omega) hC1
          omega
        rcases P'.acc with ⟨_, e0⟩ | ⟨b, G, hb1, hb2, hb3⟩
        · omega
        have gl : (matN (rows.length * C) (pickF C g (natOf rows))).length = rows.length * C := mat_length _ _
        have hs' : s' = whole b (rows.length * C) (some 2) := by rw [G.s, gl]; rfl
        refine ⟨g8.set g1.next (.cells (mcell rows.length C s') 51 true 0), ((rows.length, C, s'), 0), ?_, ?_, c08.beh (T := (· = g1.next)) (Chg.set (.inr rfl)) fun x hx e => by
          have e : x = g1.next := e
          omega⟩
        · unfold matrix_Pick
          dsimp only
          rw [← hg1, ← hg2]
          with_reducible repeat' first | refine sbn ?_ | refine bnd (ldM3 (by assumption)) ?_ | refine bnd (decM3 _ _ _) ?_ | refine bnd (ldI0 (by assumption)) ?_ | refine bnd (ldI1 (by assumption)) ?_ | refine bnd (ldL2 (by assumption)) ?_ | refine jn ?_ | refine gp1 ?_ ?_ | refine gp2 ?_ ?_ ?_ | refine gp3 ?_ ?_ ?_ ?_ | refine bnd (ldZ0 (by assumption)) ?_ | refine bnd (ldZ1 (by assumption)) ?_ | refine bnd (ldZ2 (by assumption)) ?_ | rfl
          refine bnd e5 (ifn (by simp [ec]) ?_)
          with_reducible repeat' first | refine sbn ?_ | refine bnd (ldM3 (by assumption)) ?_ | refine bnd (decM3 _ _ _) ?_ | refine bnd (ldI0 (by assumption)) ?_ | refine bnd (ldI1 (by assumption)) ?_ | refine bnd (ldL2 (by assumption)) ?_ | refine jn ?_ | refine gp1 ?_ ?_ | refine gp2 ?_ ?_ ?_ | refine gp3 ?_ ?_ ?_ ?_ | refine bnd (ldZ0 (by assumption)) ?_ | refine bnd (ldZ1 (by assumption)) ?_ | refine bnd (ldZ2 (by assumption)) ?_ | rfl
          rw [Rr.1]
          refine ifn (ne_nz (by omega)) (ifn (by rw [decide_eq_true_eq]; omega) ?_)
          with_reducible repeat' first | refine sbn ?_ | refine bnd (ldM3 (by assumption)) ?_ | refine bnd (decM3 _ _ _) ?_ | refine bnd (ldI0 (by assumption)) ?_ | refine bnd (ldI1 (by assumption)) ?_ | refine bnd (ldL2 (by assumption)) ?_ | refine jn ?_ | refine gp1 ?_ ?_ | refine gp2 ?_ ?_ ?_ | refine gp3 ?_ ?_ ?_ ?_ | refine bnd (ldZ0 (by assumption)) ?_ | refine bnd (ldZ1 (by assumption)) ?_ | refine bnd (ldZ2 (by assumption)) ?_ | rfl
          rw [Rr.1]
          refine bnd st7 ?_
          with_reducible repeat' first | refine sbn ?_ | refine bnd (ldM3 (by assumption)) ?_ | refine bnd (decM3 _ _ _) ?_ | refine bnd (ldI0 (by assumption)) ?_ | refine bnd (ldI1 (by assumption)) ?_ | refine bnd (ldL2 (by assumption)) ?_ | refine jn ?_ | refine gp1 ?_ ?_ | refine gp2 ?_ ?_ ?_ | refine gp3 ?_ ?_ ?_ ?_ | refine bnd (ldZ0 (by assumption)) ?_ | refine bnd (ldZ1 (by assumption)) ?_ | refine bnd (ldZ2 (by assumption)) ?_ | rfl
          unfold matrix_Pick_l0
          obtain ⟨bot, hbot⟩ := iterK_of (fun _ _ _ _ _ _ _ => none) (matrix_Pick_l0b k0 D _) (show rows.length + 1 ≤ k0 by omega)
          rw [hbot]
          refine (e8 _ bot).trans ?_
          exact yfin co8 y8 fun x h => some ((x, (0 : Int)), h)
        · unfold pickP
          rw [if_neg (fun h => h ec), if_neg el, if_pos (show rows.all (okR (R : Int).toNat) = true from call), hs']
          simp only [Int.toNat_natCast]
          have u9 : Mx (g8.set g1.next (.cells (mcell rows.length C (whole b (rows.length * C) (some 2))) 51 true 0)) b (rows.length * C) (pickF C g (natOf rows)) := by
            refine ⟨by rw [AHeap.get_set, if_neg (by omega)]; exact G.blk, by simp; omega, fun t ht => ?_⟩
            have hd := (Nat.div_lt_iff_lt_mul hC1).2 ht
            have hm := Nat.mod_lt t hC1
            have := le_row (c := C) (okR_nat call hd).2
            exact hel _ (by unfold pickF at *; omega)
          refine ⟨rfl, rfl, rfl, ?_, fun a ha => by cases ha; show h.next ≤ b; omega⟩
          refine (u9.congr fun t ht => ?_).inM (sp := some 2) rfl
          have hd := (Nat.div_lt_iff_lt_mul hC1).2 ht
          have hm := Nat.mod_lt t hC1
          have := le_row (c := C) (okR_nat call hd).2
          unfold pickF
          rw [hxs, natOf_mat (by omega)]
      · rw [if_neg call] at e8
        refine ⟨g8, ((0, 0, nilS), 1), ?_, ?_, c08⟩
        · unfold matrix_Pick
          dsimp only
          rw [← hg1, ← hg2]
          with_reducible repeat' first | refine sbn ?_ | refine bnd (ldM3 (by assumption)) ?_ | refine bnd (decM3 _ _ _) ?_ | refine bnd (ldI0 (by assumption)) ?_ | refine bnd (ldI1 (by assumption)) ?_ | refine bnd (ldL2 (by assumption)) ?_ | refine jn ?_ | refine gp1 ?_ ?_ | refine gp2 ?_ ?_ ?_ | refine gp3 ?_ ?_ ?_ ?_ | refine bnd (ldZ0 (by assumption)) ?_ | refine bnd (ldZ1 (by assumption)) ?_ | refine bnd (ldZ2 (by assumption)) ?_ | rfl
          refine bnd e5 (ifn (by simp [ec]) ?_)
          with_reducible repeat' first | refine sbn ?_ | refine bnd (ldM3 (by assumption)) ?_ | refine bnd (decM3 _ _ _) ?_ | refine bnd (ldI0 (by assumption)) ?_ | refine bnd (ldI1 (by assumption)) ?_ | refine bnd (ldL2 (by assumption)) ?_ | refine jn ?_ | refine gp1 ?_ ?_ | refine gp2 ?_ ?_ ?_ | refine gp3 ?_ ?_ ?_ ?_ | refine bnd (ldZ0 (by assumption)) ?_ | refine bnd (ldZ1 (by assumption)) ?_ | refine bnd (ldZ2 (by assumption)) ?_ | rfl
          rw [Rr.1]
          refine ifn (ne_nz (by omega)) (ifn (by rw [decide_eq_true_eq]; omega) ?_)
          with_reducible repeat' first | refine sbn ?_ | refine bnd (ldM3 (by assumption)) ?_ | refine bnd (decM3 _ _ _) ?_ | refine bnd (ldI0 (by assumption)) ?_ | refine bnd (ldI1 (by assumption)) ?_ | refine bnd (ldL2 (by assumption)) ?_ | refine jn ?_ | refine gp1 ?_ ?_ | refine gp2 ?_ ?_ ?_ | refine gp3 ?_ ?_ ?_ ?_ | refine bnd (ldZ0 (by assumption)) ?_ | refine bnd (ldZ1 (by assumption)) ?_ | refine bnd (ldZ2 (by assumption)) ?_ | rfl
          rw [Rr.1]
          refine bnd st7 ?_
          with_reducible repeat' first | refine sbn ?_ | refine bnd (ldM3 (by assumption)) ?_ | refine bnd (decM3 _ _ _) ?_ | refine bnd (ldI0 (by assumption)) ?_ | refine bnd (ldI1 (by assumption)) ?_ | refine bnd (ldL2 (by assumption)) ?_ | refine jn ?_ | refine gp1 ?_ ?_ | refine gp2 ?_ ?_ ?_ | refine gp3 ?_ ?_ ?_ ?_ | refine bnd (ldZ0 (by assumption)) ?_ | refine bnd (ldZ1 (by assumption)) ?_ | refine bnd (ldZ2 (by assumption)) ?_ | rfl
          unfold matrix_Pick_l0
          obtain ⟨bot, hbot⟩ := iterK_of (fun _ _ _ _ _ _ _ => none) (matrix_Pick_l0b k0 D _) (show rows.length + 1 ≤ k0 by omega)
          rw [hbot]
          exact e8 _ bot
        · unfold pickP
          rw [if_neg (fun h => h ec), if_neg el, if_neg (show ¬ rows.all (okR (R : Int).toNat) = true from call)]
          exact Out.no _
  · refine ⟨g5, ((0, 0, nilS), chk r c xs), ?_, ?_, k05⟩
    · unfold matrix_Pick
      dsimp only
      rw [← hg1, ← hg2]
      with_reducible repeat' first | refine sbn ?_ | refine bnd (ldM3 (by assumption)) ?_ | refine bnd (decM3 _ _ _) ?_ | refine bnd (ldI0 (by assumption)) ?_ | refine bnd (ldI1 (by assumption)) ?_ | refine bnd (ldL2 (by assumption)) ?_ | refine jn ?_ | refine gp1 ?_ ?_ | refine gp2 ?_ ?_ ?_ | refine gp3 ?_ ?_ ?_ ?_ | refine bnd (ldZ0 (by assumption)) ?_ | refine bnd (ldZ1 (by assumption)) ?_ | refine bnd (ldZ2 (by assumption)) ?_ | rfl
      refine bnd e5 (ifp (by simpa using ec) ?_)
      exact zfin y5 fun x h => some ((x, chk r c xs), h)
    · unfold pickP
      rw [if_pos ec]
      exact Out.no _
end Gy
namespace Gy
open Go Gx Go.Proofs
theorem div_scl {x b : Nat} (hx : x < 256) (hb : b < 256) (b0 : b ≠ 0) : mulT x (divT 1 b) = divT x b := by
  have h1 : mulT (mulT x (divT 1 b)) b = x := by rw [mulT_assoc, mul_div (by omega) hb b0, mulT_one hx]
  have := div_mul (q := mulT x (divT 1 b)) (b := b) (mulT_lt _ _) hb b0
  rw [h1] at this
  exact this.symm
theorem scl_div {N C i b : Nat} {g : Nat → Nat} (he : ∀ t, t < N → g t < 256) (hb : b < 256) (b0 : b ≠ 0) : ∀ t, t < N → sclR C i (divT 1 b) g t = divR C i b g t := fun t ht => by
  unfold sclR divR
  split
  · exact div_scl (he t ht) hb b0
  · rfl
theorem stepsN_le (R C C2 : Nat) : ∀ (m j r : Nat) (g u : Nat → Nat), (stepsN R C C2 m j r g u).1 ≤ r + m
  | 0, _, r, _, _ => Nat.le_refl _
  | m + 1, j, r, g, u => by
    simp only [stepsN]
    split
    · split
      · have := stepsN_le R C C2 m (j + 1) r g u; omega
      · have := stepsN_le R C C2 m (j + 1) (r + 1) (stepG C j (leadN C j g (R - r) r) r g) (stepU C C2 j (leadN C j g (R - r) r) r g u); omega
    · omega
structure SR (H0 : AHeap) (B B2 oa ol ou yb R : Nat) (s : Slc) (sp sp2 : Option Nat) (g u : Nat → Nat) (h : AHeap) : Prop where
  a : Mx h B (R * R) g
  b : Mx h B2 (R * R) u
  ca : h.get oa = some (.cells (mcell R R s) 54 true 0)
  cl : h.get ol = some (.cells (mcell R R (whole B (R * R) sp)) 54 true 0)
  cu : h.get ou = some (.cells (mcell R R (whole B2 (R * R) sp2)) 54 true 0)
  cy : h.get yb = some (.cells (mcell 0 0 nilS) 54 true 0)
  la : oa < h.next
  ll : ol < h.next
  lu : ou < h.next
  ly : yb < h.next
  ch : Chg (fun x => x = B ∨ x = B2) H0 h
structure DR (B B2 oa ol ou yb : Nat) : Prop where
  bb : B ≠ B2
  a1 : oa ≠ B
  l1 : ol ≠ B
  u1 : ou ≠ B
  y1 : yb ≠ B
  a2 : oa ≠ B2
  l2 : ol ≠ B2
  u2 : ou ≠ B2
  y2 : yb ≠ B2
section
variable {H0 : AHeap} {B B2 oa ol ou yb R : Nat} {s : Slc} {sp sp2 : Option Nat} {g u g' u' : Nat → Nat} {h h' : AHeap}
theorem SR.keeps (S : SR H0 B B2 oa ol ou yb R s sp sp2 g u h) (k : Keeps h h') : SR H0 B B2 oa ol ou yb R s sp sp2 g u h' :=
  ⟨S.a.keeps k, S.b.keeps k, by rw [k.oth _ S.la (fun f => f)]; exact S.ca, by rw [k.oth _ S.ll (fun f => f)]; exact S.cl, by rw [k.oth _ S.lu (fun f => f)]; exact S.cu, by rw [k.oth _ S.ly (fun f => f)]; exact S.cy,
    Nat.lt_of_lt_of_le S.la k.nx, Nat.lt_of_lt_of_le S.ll k.nx, Nat.lt_of_lt_of_le S.lu k.nx, Nat.lt_of_lt_of_le S.ly k.nx, S.ch.trans (Chg.keeps k)⟩
theorem SR.opA (D : DR B B2 oa ol ou yb) (S : SR H0 B B2 oa ol ou yb R s sp sp2 g u h) (m : Mx h' B (R * R) g') (k : Chg (· = B) h h') : SR H0 B B2 oa ol ou yb R s sp sp2 g' u h' :=
  ⟨m, S.b.chg k (fun e => D.bb e.symm), by rw [k.oth _ S.la D.a1]; exact S.ca, by rw [k.oth _ S.ll D.l1]; exact S.cl, by rw [k.oth _ S.lu D.u1]; exact S.cu, by rw [k.oth _ S.ly D.y1]; exact S.cy,
    Nat.lt_of_lt_of_le S.la k.nx, Nat.lt_of_lt_of_le S.ll k.nx, Nat.lt_of_lt_of_le S.lu k.nx, Nat.lt_of_lt_of_le S.ly k.nx, S.ch.trans (k.wk fun _ _ e => .inl e)⟩
theorem SR.opB (D : DR B B2 oa ol ou yb) (S : SR H0 B B2 oa ol ou yb R s sp sp2 g u h) (m : Mx h' B2 (R * R) u') (k : Chg (· = B2) h h') : SR H0 B B2 oa ol ou yb R s sp sp2 g u' h' :=
  ⟨S.a.chg k D.bb, m, by rw [k.oth _ S.la D.a2]; exact S.ca, by rw [k.oth _ S.ll D.l2]; exact S.cl, by rw [k.oth _ S.lu D.u2]; exact S.cu, by rw [k.oth _ S.ly D.y2]; exact S.cy,
    Nat.lt_of_lt_of_le S.la k.nx, Nat.lt_of_lt_of_le S.ll k.nx, Nat.lt_of_lt_of_le S.lu k.nx, Nat.lt_of_lt_of_le S.ly k.nx, S.ch.trans (k.wk fun _ _ e => .inr e)⟩
theorem SR.congr (S : SR H0 B B2 oa ol ou yb R s sp sp2 g u h) (e1 : ∀ t, t < R * R → g t = g' t) (e2 : ∀ t, t < R * R → u t = u' t) : SR H0 B B2 oa ol ou yb R s sp sp2 g' u' h :=
  ⟨S.a.congr e1, S.b.congr e2, S.ca, S.cl, S.cu, S.cy, S.la, S.ll, S.lu, S.ly, S.ch⟩
theorem mx_at {C N : Nat} {sp : Option Nat} (m : Mx h B (N * C) g) (k : Nat) (D : CallF) {i j : Nat} (hi : i < N) (hj : j < C) (hs : N * C ≤ 100000) :
    ∃ h', ref04_M_At k D (N, C, whole B (N * C) sp) (i : Int) (j : Int) h = some ((g (i * C + j) : Int), h') ∧ Keeps h h' := by
  have := le_row (c := C) hi
  exact at_row k D (r := N) (C := C) (i := i) (j := j) (m.row (sp := sp)) (by unfold matN; exact mat_get (by omega)) (by omega)
end
section
variable {k0 : Nat} {H0 : AHeap} {B B2 oa ol ou yb R : Nat} {s : Slc} {sp sp2 : Option Nat} {g u : Nat → Nat}
theorem rinv_l1 (hk : 1000 ≤ k0) (K : CallF) (D : DR B B2 oa ol ou yb) (hR : R ≤ 255) {j : Nat} (hj : j < R) : ∀ (m i : Nat) (h : AHeap), i + m = R → SR H0 B B2 oa ol ou yb R s sp sp2 (elimGi R j j i g) (elimUi R R j j i g u) h →
    ∃ h', SR H0 B B2 oa ol ou yb R s sp sp2 (elimG R j j g) (elimU R R j j g u) h' ∧ ∀ J bot, iterK bot (m + 1) (ref04_Inverse_l1b k0 K J) (some ⟨oa, 0, none⟩) (some ⟨yb, 0, none⟩) (some ⟨ol, 0, none⟩) (some ⟨ou, 0, none⟩) (j : Int) (i : Int) h = J (some ⟨oa, 0, none⟩) (some ⟨yb, 0, none⟩) (some ⟨ol, 0, none⟩) (some ⟨ou, 0, none⟩) (j : Int) h' := by
  intro m
  have hs : R * R ≤ 100000 := Nat.le_trans (Nat.mul_le_mul hR hR) (by omega)
  have hR0 : 0 < R := by omega
  induction m with
  | zero =>
    intro i h hi S
    obtain rfl : i = R := by omega
    refine ⟨h, S.congr (fun t ht => ?_) (fun t ht => ?_), fun J bot => ?_⟩
    · unfold elimGi; rw [if_pos ((Nat.div_lt_iff_lt_mul hR0).2 ht)]
    · unfold elimUi; rw [if_pos ((Nat.div_lt_iff_lt_mul hR0).2 ht)]
    · have ca := S.ca
      rw [iterK_s, ref04_Inverse_l1b]
      with_reducible repeat' first | refine sbn ?_ | refine bnd (ldM3 (by assumption)) ?_ | refine bnd (decM3 _ _ _) ?_ | refine bnd (ldI0 (by assumption)) ?_ | refine bnd (ldI1 (by assumption)) ?_ | refine bnd (ldL2 (by assumption)) ?_ | refine jn ?_ | refine gp1 ?_ ?_ | refine gp2 ?_ ?_ ?_ | refine gp3 ?_ ?_ ?_ ?_ | refine bnd (ldZ0 (by assumption)) ?_ | refine bnd (ldZ1 (by assumption)) ?_ | refine bnd (ldZ2 (by assumption)) ?_ | rfl
      exact ifn (by rw [decide_eq_true_eq]; omega) rfl
  | succ m ih =>
    intro i h hi S
    have hi' : i < R := by omega
    have pi := le_row (c := R) hi'
    have pr := le_row (c := R) hj
    have ca := S.ca
    have cl := S.cl
    by_cases c1 : i = j
    · obtain ⟨h', S', e'⟩ := ih (i + 1) h (by omega) (S.congr (fun t _ => by
          unfold elimGi
          by_cases d : t / R < i
          · rw [if_pos d, if_pos (by omega)]
          · rw [if_neg d]
            by_cases d2 : t / R < i + 1
            · rw [if_pos d2]; unfold elimG; rw [if_pos (by omega)]
            · rw [if_neg d2]) (fun t _ => by
          unfold elimUi
          by_cases d : t / R < i
          · rw [if_pos d, if_pos (by omega)]
          · rw [if_neg d]
            by_cases d2 : t / R < i + 1
            · rw [if_pos d2]; unfold elimU; rw [if_pos (by omega)]
            · rw [if_neg d2]))
      refine ⟨h', S', fun J bot => ?_⟩
      rw [iterK_s, ref04_Inverse_l1b]
      with_reducible repeat' first | refine sbn ?_ | refine bnd (ldM3 (by assumption)) ?_ | refine bnd (decM3 _ _ _) ?_ | refine bnd (ldI0 (by assumption)) ?_ | refine bnd (ldI1 (by assumption)) ?_ | refine bnd (ldL2 (by assumption)) ?_ | refine jn ?_ | refine gp1 ?_ ?_ | refine gp2 ?_ ?_ ?_ | refine gp3 ?_ ?_ ?_ ?_ | refine bnd (ldZ0 (by assumption)) ?_ | refine bnd (ldZ1 (by assumption)) ?_ | refine bnd (ldZ2 (by assumption)) ?_ | rfl
      refine ifp (by rw [decide_eq_true_eq]; omega) ?_
      with_reducible repeat' first | refine sbn ?_ | refine bnd (ldM3 (by assumption)) ?_ | refine bnd (decM3 _ _ _) ?_ | refine bnd (ldI0 (by assumption)) ?_ | refine bnd (ldI1 (by assumption)) ?_ | refine bnd (ldL2 (by assumption)) ?_ | refine jn ?_ | refine gp1 ?_ ?_ | refine gp2 ?_ ?_ ?_ | refine gp3 ?_ ?_ ?_ ?_ | refine bnd (ldZ0 (by assumption)) ?_ | refine bnd (ldZ1 (by assumption)) ?_ | refine bnd (ldZ2 (by assumption)) ?_ | rfl
      refine ifn (by simp [c1]) (ifn (by simp) ?_)
      dsimp only
      rw [w1 (by omega)]
      exact e' J bot
    · obtain ⟨h1, e1, k1⟩ := mx_at S.a (sp := sp) k0 K hi' hj hs
      have geq : elimGi R j j i g (i * R + j) = g (i * R + j) := by
        unfold elimGi; rw [pos_div hj, if_neg (by omega)]
      rw [geq] at e1
      have S1 := S.keeps k1
      by_cases c2 : g (i * R + j) = 0
      · obtain ⟨h', S', e'⟩ := ih (i + 1) h1 (by omega) (S1.congr (fun t _ => by
            unfold elimGi
            by_cases d : t / R < i
            · rw [if_pos d, if_pos (by omega)]
            · rw [if_neg d]
              by_cases d2 : t / R < i + 1
              · have : t / R = i := by omega
                rw [if_pos d2]; unfold elimG; rw [if_neg (by omega), this, c2, mulT_comm, mulT_zero, Nat.xor_zero]
              · rw [if_neg d2]) (fun t _ => by
            unfold elimUi
            by_cases d : t / R < i
            · rw [if_pos d, if_pos (by omega)]
            · rw [if_neg d]
              by_cases d2 : t / R < i + 1
              · have : t / R = i := by omega
                rw [if_pos d2]; unfold elimU; rw [if_neg (by omega), this, c2, mulT_comm, mulT_zero, Nat.xor_zero]
              · rw [if_neg d2]))
        refine ⟨h', S', fun J bot => ?_⟩
        rw [iterK_s, ref04_Inverse_l1b]
        with_reducible repeat' first | refine sbn ?_ | refine bnd (ldM3 (by assumption)) ?_ | refine bnd (decM3 _ _ _) ?_ | refine bnd (ldI0 (by assumption)) ?_ | refine bnd (ldI1 (by assumption)) ?_ | refine bnd (ldL2 (by assumption)) ?_ | refine jn ?_ | refine gp1 ?_ ?_ | refine gp2 ?_ ?_ ?_ | refine gp3 ?_ ?_ ?_ ?_ | refine bnd (ldZ0 (by assumption)) ?_ | refine bnd (ldZ1 (by assumption)) ?_ | refine bnd (ldZ2 (by assumption)) ?_ | rfl
        refine ifp (by rw [decide_eq_true_eq]; omega) ?_
        with_reducible repeat' first | refine sbn ?_ | refine bnd (ldM3 (by assumption)) ?_ | refine bnd (decM3 _ _ _) ?_ | refine bnd (ldI0 (by assumption)) ?_ | refine bnd (ldI1 (by assumption)) ?_ | refine bnd (ldL2 (by assumption)) ?_ | refine jn ?_ | refine gp1 ?_ ?_ | refine gp2 ?_ ?_ ?_ | refine gp3 ?_ ?_ ?_ ?_ | refine bnd (ldZ0 (by assumption)) ?_ | refine bnd (ldZ1 (by assumption)) ?_ | refine bnd (ldZ2 (by assumption)) ?_ | rfl
        refine ifp (by simp; omega) ?_
        with_reducible repeat' first | refine sbn ?_ | refine bnd (ldM3 (by assumption)) ?_ | refine bnd (decM3 _ _ _) ?_ | refine bnd (ldI0 (by assumption)) ?_ | refine bnd (ldI1 (by assumption)) ?_ | refine bnd (ldL2 (by assumption)) ?_ | refine jn ?_ | refine gp1 ?_ ?_ | refine gp2 ?_ ?_ ?_ | refine gp3 ?_ ?_ ?_ ?_ | refine bnd (ldZ0 (by assumption)) ?_ | refine bnd (ldZ1 (by assumption)) ?_ | refine bnd (ldZ2 (by assumption)) ?_ | rfl
        refine bnd e1 ?_
        refine ifn (by simp [c2]) ?_
        dsimp only
        rw [w1 (by omega)]
        exact e' J bot
      · have cl1 := S1.cl
        obtain ⟨h2, e2, k2⟩ := mx_at S1.a (sp := sp) k0 K hi' hj hs
        rw [geq] at e2
        have S2 := S1.keeps k2
        have cl2 := S2.cl
        have gel : g (i * R + j) < 256 := by rw [← geq]; exact S.a.el _ (by omega)
        obtain ⟨h3, e3, m3, c3⟩ := mradd_spec hk K (sp := sp) S2.a hR0 hR hs hi' hj c1 gel
        have S3 := S2.opA D m3 c3
        have cu3 := S3.cu
        obtain ⟨h4, e4, m4, c4⟩ := mradd_spec hk K (sp := sp2) S3.b hR0 hR hs hi' hj c1 gel
        have S4 := S3.opB D m4 c4
        obtain ⟨h', S', e'⟩ := ih (i + 1) h4 (by omega) (S4.congr (fun t _ => by
            have ht := Nat.mod_lt t hR0
            unfold addR
            dsimp only
            rw [elimGi_r g ht]
            unfold elimGi
            by_cases d : t / R = i
            · rw [if_pos d, if_neg (by omega), if_pos (by omega)]
              unfold elimG
              rw [if_neg (by omega), d]
            · rw [if_neg d]
              by_cases d2 : t / R < i
              · rw [if_pos d2, if_pos (by omega)]
              · rw [if_neg d2, if_neg (by omega)]) (fun t _ => by
            have ht := Nat.mod_lt t hR0
            unfold addR
            dsimp only
            rw [elimUi_r g u ht]
            unfold elimUi
            by_cases d : t / R = i
            · rw [if_pos d, if_neg (by omega), if_pos (by omega)]
              unfold elimU
              rw [if_neg (by omega), d]
            · rw [if_neg d]
              by_cases d2 : t / R < i
              · rw [if_pos d2, if_pos (by omega)]
              · rw [if_neg d2, if_neg (by omega)]))
        refine ⟨h', S', fun J bot => ?_⟩
        rw [iterK_s, ref04_Inverse_l1b]
        with_reducible repeat' first | refine sbn ?_ | refine bnd (ldM3 (by assumption)) ?_ | refine bnd (decM3 _ _ _) ?_ | refine bnd (ldI0 (by assumption)) ?_ | refine bnd (ldI1 (by assumption)) ?_ | refine bnd (ldL2 (by assumption)) ?_ | refine jn ?_ | refine gp1 ?_ ?_ | refine gp2 ?_ ?_ ?_ | refine gp3 ?_ ?_ ?_ ?_ | refine bnd (ldZ0 (by assumption)) ?_ | refine bnd (ldZ1 (by assumption)) ?_ | refine bnd (ldZ2 (by assumption)) ?_ | rfl
        refine ifp (by rw [decide_eq_true_eq]; omega) ?_
        with_reducible repeat' first | refine sbn ?_ | refine bnd (ldM3 (by assumption)) ?_ | refine bnd (decM3 _ _ _) ?_ | refine bnd (ldI0 (by assumption)) ?_ | refine bnd (ldI1 (by assumption)) ?_ | refine bnd (ldL2 (by assumption)) ?_ | refine jn ?_ | refine gp1 ?_ ?_ | refine gp2 ?_ ?_ ?_ | refine gp3 ?_ ?_ ?_ ?_ | refine bnd (ldZ0 (by assumption)) ?_ | refine bnd (ldZ1 (by assumption)) ?_ | refine bnd (ldZ2 (by assumption)) ?_ | rfl
        refine ifp (by simp; omega) ?_
        with_reducible repeat' first | refine sbn ?_ | refine bnd (ldM3 (by assumption)) ?_ | refine bnd (decM3 _ _ _) ?_ | refine bnd (ldI0 (by assumption)) ?_ | refine bnd (ldI1 (by assumption)) ?_ | refine bnd (ldL2 (by assumption)) ?_ | refine jn ?_ | refine gp1 ?_ ?_ | refine gp2 ?_ ?_ ?_ | refine gp3 ?_ ?_ ?_ ?_ | refine bnd (ldZ0 (by assumption)) ?_ | refine bnd (ldZ1 (by assumption)) ?_ | refine bnd (ldZ2 (by assumption)) ?_ | rfl
        refine bnd e1 ?_
        refine ifp (by simp; omega) ?_
        with_reducible repeat' first | refine sbn ?_ | refine bnd (ldM3 (by assumption)) ?_ | refine bnd (decM3 _ _ _) ?_ | refine bnd (ldI0 (by assumption)) ?_ | refine bnd (ldI1 (by assumption)) ?_ | refine bnd (ldL2 (by assumption)) ?_ | refine jn ?_ | refine gp1 ?_ ?_ | refine gp2 ?_ ?_ ?_ | refine gp3 ?_ ?_ ?_ ?_ | refine bnd (ldZ0 (by assumption)) ?_ | refine bnd (ldZ1 (by assumption)) ?_ | refine bnd (ldZ2 (by assumption)) ?_ | rfl
        refine bnd e2 ?_
        with_reducible repeat' first | refine sbn ?_ | refine bnd (ldM3 (by assumption)) ?_ | refine bnd (decM3 _ _ _) ?_ | refine bnd (ldI0 (by assumption)) ?_ | refine bnd (ldI1 (by assumption)) ?_ | refine bnd (ldL2 (by assumption)) ?_ | refine jn ?_ | refine gp1 ?_ ?_ | refine gp2 ?_ ?_ ?_ | refine gp3 ?_ ?_ ?_ ?_ | refine bnd (ldZ0 (by assumption)) ?_ | refine bnd (ldZ1 (by assumption)) ?_ | refine bnd (ldZ2 (by assumption)) ?_ | rfl
        refine bnd e3 ?_
        with_reducible repeat' first | refine sbn ?_ | refine bnd (ldM3 (by assumption)) ?_ | refine bnd (decM3 _ _ _) ?_ | refine bnd (ldI0 (by assumption)) ?_ | refine bnd (ldI1 (by assumption)) ?_ | refine bnd (ldL2 (by assumption)) ?_ | refine jn ?_ | refine gp1 ?_ ?_ | refine gp2 ?_ ?_ ?_ | refine gp3 ?_ ?_ ?_ ?_ | refine bnd (ldZ0 (by assumption)) ?_ | refine bnd (ldZ1 (by assumption)) ?_ | refine bnd (ldZ2 (by assumption)) ?_ | rfl
        refine bnd e4 ?_
        dsimp only
        rw [w1 (by omega)]
        exact e' J bot
theorem rinv_l0 (hk : 1000 ≤ k0) (K : CallF) (D : DR B B2 oa ol ou yb) (hR : R ≤ 255) : ∀ (m j : Nat) (g u : Nat → Nat) (h : AHeap), j + m = R → SR H0 B B2 oa ol ou yb R s sp sp2 g u h →
    ∃ h', Chg (fun x => x = B ∨ x = B2) H0 h' ∧ if (stepsN R R R m j j g u).1 < R then ∀ J bot, iterK bot (m + 1) (ref04_Inverse_l0b k0 K J) (some ⟨oa, 0, none⟩) (some ⟨yb, 0, none⟩) (some ⟨ol, 0, none⟩) (some ⟨ou, 0, none⟩) (j : Int) h = some (((0, 0, nilS), 40), h')
      else SR H0 B B2 oa ol ou yb R s sp sp2 (stepsN R R R m j j g u).2.1 (stepsN R R R m j j g u).2.2 h' ∧ ∀ J bot, iterK bot (m + 1) (ref04_Inverse_l0b k0 K J) (some ⟨oa, 0, none⟩) (some ⟨yb, 0, none⟩) (some ⟨ol, 0, none⟩) (some ⟨ou, 0, none⟩) (j : Int) h = J (some ⟨yb, 0, none⟩) (some ⟨ou, 0, none⟩) h' := by
  intro m
  have hs : R * R ≤ 100000 := Nat.le_trans (Nat.mul_le_mul hR hR) (by omega)
  induction m with
  | zero =>
    intro j g u h hj S
    obtain rfl : j = R := by omega
    refine ⟨h, S.ch, ?_⟩
    rw [if_neg (show ¬ (stepsN j j j 0 j j g u).1 < j from Nat.lt_irrefl _)]
    refine ⟨S, fun J bot => ?_⟩
    have ca := S.ca
    rw [iterK_s, ref04_Inverse_l0b]
    with_reducible repeat' first | refine sbn ?_ | refine bnd (ldM3 (by assumption)) ?_ | refine bnd (decM3 _ _ _) ?_ | refine bnd (ldI0 (by assumption)) ?_ | refine bnd (ldI1 (by assumption)) ?_ | refine bnd (ldL2 (by assumption)) ?_ | refine jn ?_ | refine gp1 ?_ ?_ | refine gp2 ?_ ?_ ?_ | refine gp3 ?_ ?_ ?_ ?_ | refine bnd (ldZ0 (by assumption)) ?_ | refine bnd (ldZ1 (by assumption)) ?_ | refine bnd (ldZ2 (by assumption)) ?_ | rfl
    exact ifn (by rw [decide_eq_true_eq]; omega) rfl
  | succ m ih =>
    intro j g u h hj S
    have hj' : j < R := by omega
    have hR0 : 0 < R := by omega
    have ca := S.ca
    have cl := S.cl
    obtain ⟨h1, e1, k1⟩ := mrlead_spec hk K (sp := sp) S.a hj' hR hs (show j ≤ R by omega)
    have S1 := S.keeps k1
    have cy1 := S1.cy
    have cl1 := S1.cl
    obtain ⟨l, hl⟩ : ∃ l, l = leadN R j g (R - j) j := ⟨_, rfl⟩
    have hle := leadN_le R j g (R - j) j
    rw [← hl] at e1 hle
    by_cases c1 : l = R
    · have es : (stepsN R R R (m + 1) j j g u).1 < R := by
        simp only [stepsN]
        rw [if_pos hj', ← hl, if_pos c1]
        have := stepsN_le R R R m (j + 1) j g u
        omega
      refine ⟨h1, S1.ch, ?_⟩
      rw [if_pos es]
      intro J bot
      rw [if_pos c1] at e1
      rw [iterK_s, ref04_Inverse_l0b]
      with_reducible repeat' first | refine sbn ?_ | refine bnd (ldM3 (by assumption)) ?_ | refine bnd (decM3 _ _ _) ?_ | refine bnd (ldI0 (by assumption)) ?_ | refine bnd (ldI1 (by assumption)) ?_ | refine bnd (ldL2 (by assumption)) ?_ | refine jn ?_ | refine gp1 ?_ ?_ | refine gp2 ?_ ?_ ?_ | refine gp3 ?_ ?_ ?_ ?_ | refine bnd (ldZ0 (by assumption)) ?_ | refine bnd (ldZ1 (by assumption)) ?_ | refine bnd (ldZ2 (by assumption)) ?_ | rfl
      refine ifp (by rw [decide_eq_true_eq]; omega) ?_
      with_reducible repeat' first | refine sbn ?_ | refine bnd (ldM3 (by assumption)) ?_ | refine bnd (decM3 _ _ _) ?_ | refine bnd (ldI0 (by assumption)) ?_ | refine bnd (ldI1 (by assumption)) ?_ | refine bnd (ldL2 (by assumption)) ?_ | refine jn ?_ | refine gp1 ?_ ?_ | refine gp2 ?_ ?_ ?_ | refine gp3 ?_ ?_ ?_ ?_ | refine bnd (ldZ0 (by assumption)) ?_ | refine bnd (ldZ1 (by assumption)) ?_ | refine bnd (ldZ2 (by assumption)) ?_ | rfl
      refine bnd e1 (ifp rfl ?_)
      exact zfin cy1 fun x h => some ((x, (40 : Int)), h)
    · rw [if_neg c1] at e1
      have es : stepsN R R R (m + 1) j j g u = stepsN R R R m (j + 1) (j + 1) (stepG R j l j g) (stepU R R j l j g u) := by
        simp only [stepsN]
        rw [if_pos hj', ← hl, if_neg c1]
      have hlR : l < R := by omega
      obtain ⟨h2, e2, m2, c2⟩ := mrswap_spec hk K (sp := sp) S1.a hR0 hR hs hlR hj'
      have S2 := S1.opA D m2 c2
      have cu2 := S2.cu
      obtain ⟨h3, e3, m3, c3⟩ := mrswap_spec hk K (sp := sp2) S2.b hR0 hR hs hlR hj'
      have S3 := S2.opB D m3 c3
      have cl3 := S3.cl
      obtain ⟨h4, e4, k4⟩ := mx_at S3.a (sp := sp) k0 K hj' hj' hs
      have S4 := S3.keeps k4
      have cl4 := S4.cl
      have pj := le_row (c := R) hj'
      obtain ⟨p, hp⟩ : ∃ p, p = swapR R l j g (j * R + j) := ⟨_, rfl⟩
      have plt : p < 256 := by rw [hp]; exact S3.a.el _ (by omega)
      have pne : p ≠ 0 := by
        have := leadN_ne R j g (R - j) j (by omega)
        rw [← hl] at this
        rw [hp]
        unfold swapR
        rw [pos_div hj', pos_mod hj']
        by_cases e : j = l
        · rw [if_pos e]; rw [← e] at this; exact this
        · rw [if_neg e, if_pos rfl]; exact this
      have e5 := rover_spec (k := k0) (by omega) K (a := 1) (by omega) plt pne h4
      rw [← hp] at e4
      obtain ⟨h6, e6, m6, c6⟩ := mrscale_spec hk K (sp := sp) S4.a hR0 hR hs hj' (divT_lt (x := 1) (y := p))
      have S6 := S4.opA D m6 c6
      have cu6 := S6.cu
      obtain ⟨h7, e7, m7, c7⟩ := mrscale_spec hk K (sp := sp2) S6.b hR0 hR hs hj' (divT_lt (x := 1) (y := p))
      have S7 := (S6.opB D m7 c7).congr (scl_div S4.a.el plt pne) (scl_div S4.b.el plt pne)
      obtain ⟨h8, S8, e8⟩ := rinv_l1 hk K D hR (g := divR R j p (swapR R l j g)) (u := divR R j p (swapR R l j u)) hj' R 0 h7 (by omega) (S7.congr (fun t _ => by unfold elimGi; rw [if_neg (Nat.not_lt_zero _)]) (fun t _ => by unfold elimUi; rw [if_neg (Nat.not_lt_zero _)]))
      have eg : elimG R j j (divR R j p (swapR R l j g)) = stepG R j l j g := by rw [hp]; rfl
      have eu : elimU R R j j (divR R j p (swapR R l j g)) (divR R j p (swapR R l j u)) = stepU R R j l j g u := by rw [hp]; rfl
      rw [eg, eu] at S8
      obtain ⟨h', c', e'⟩ := ih (j + 1) _ _ h8 (by omega) S8
      have step : ∀ J bot, iterK bot (m + 1 + 1) (ref04_Inverse_l0b k0 K J) (some ⟨oa, 0, none⟩) (some ⟨yb, 0, none⟩) (some ⟨ol, 0, none⟩) (some ⟨ou, 0, none⟩) (j : Int) h = iterK bot (m + 1) (ref04_Inverse_l0b k0 K J) (some ⟨oa, 0, none⟩) (some ⟨yb, 0, none⟩) (some ⟨ol, 0, none⟩) (some ⟨ou, 0, none⟩) ((j + 1 : Nat) : Int) h8 := fun J bot => by
        rw [iterK_s, ref04_Inverse_l0b]
        with_reducible repeat' first | refine sbn ?_ | refine bnd (ldM3 (by assumption)) ?_ | refine bnd (decM3 _ _ _) ?_ | refine bnd (ldI0 (by assumption)) ?_ | refine bnd (ldI1 (by assumption)) ?_ | refine bnd (ldL2 (by assumption)) ?_ | refine jn ?_ | refine gp1 ?_ ?_ | refine gp2 ?_ ?_ ?_ | refine gp3 ?_ ?_ ?_ ?_ | refine bnd (ldZ0 (by assumption)) ?_ | refine bnd (ldZ1 (by assumption)) ?_ | refine bnd (ldZ2 (by assumption)) ?_ | rfl
        refine ifp (by rw [decide_eq_true_eq]; omega) ?_
        with_reducible repeat' first | refine sbn ?_ | refine bnd (ldM3 (by assumption)) ?_ | refine bnd (decM3 _ _ _) ?_ | refine bnd (ldI0 (by assumption)) ?_ | refine bnd (ldI1 (by assumption)) ?_ | refine bnd (ldL2 (by assumption)) ?_ | refine jn ?_ | refine gp1 ?_ ?_ | refine gp2 ?_ ?_ ?_ | refine gp3 ?_ ?_ ?_ ?_ | refine bnd (ldZ0 (by assumption)) ?_ | refine bnd (ldZ1 (by assumption)) ?_ | refine bnd (ldZ2 (by assumption)) ?_ | rfl
        refine bnd e1 (ifn (by simp) ?_)
        with_reducible repeat' first | refine sbn ?_ | refine bnd (ldM3 (by assumption)) ?_ | refine bnd (decM3 _ _ _) ?_ | refine bnd (ldI0 (by assumption)) ?_ | refine bnd (ldI1 (by assumption)) ?_ | refine bnd (ldL2 (by assumption)) ?_ | refine jn ?_ | refine gp1 ?_ ?_ | refine gp2 ?_ ?_ ?_ | refine gp3 ?_ ?_ ?_ ?_ | refine bnd (ldZ0 (by assumption)) ?_ | refine bnd (ldZ1 (by assumption)) ?_ | refine bnd (ldZ2 (by assumption)) ?_ | rfl
        refine bnd e2 ?_
        with_reducible repeat' first | refine sbn ?_ | refine bnd (ldM3 (by assumption)) ?_ | refine bnd (decM3 _ _ _) ?_ | refine bnd (ldI0 (by assumption)) ?_ | refine bnd (ldI1 (by assumption)) ?_ | refine bnd (ldL2 (by assumption)) ?_ | refine jn ?_ | refine gp1 ?_ ?_ | refine gp2 ?_ ?_ ?_ | refine gp3 ?_ ?_ ?_ ?_ | refine bnd (ldZ0 (by assumption)) ?_ | refine bnd (ldZ1 (by assumption)) ?_ | refine bnd (ldZ2 (by assumption)) ?_ | rfl
        refine bnd e3 ?_
        with_reducible repeat' first | refine sbn ?_ | refine bnd (ldM3 (by assumption)) ?_ | refine bnd (decM3 _ _ _) ?_ | refine bnd (ldI0 (by assumption)) ?_ | refine bnd (ldI1 (by assumption)) ?_ | refine bnd (ldL2 (by assumption)) ?_ | refine jn ?_ | refine gp1 ?_ ?_ | refine gp2 ?_ ?_ ?_ | refine gp3 ?_ ?_ ?_ ?_ | refine bnd (ldZ0 (by assumption)) ?_ | refine bnd (ldZ1 (by assumption)) ?_ | refine bnd (ldZ2 (by assumption)) ?_ | rfl
        refine bnd e4 (bnd e5 ?_)
        with_reducible repeat' first | refine sbn ?_ | refine bnd (ldM3 (by assumption)) ?_ | refine bnd (decM3 _ _ _) ?_ | refine bnd (ldI0 (by assumption)) ?_ | refine bnd (ldI1 (by assumption)) ?_ | refine bnd (ldL2 (by assumption)) ?_ | refine jn ?_ | refine gp1 ?_ ?_ | refine gp2 ?_ ?_ ?_ | refine gp3 ?_ ?_ ?_ ?_ | refine bnd (ldZ0 (by assumption)) ?_ | refine bnd (ldZ1 (by assumption)) ?_ | refine bnd (ldZ2 (by assumption)) ?_ | rfl
        refine bnd e6 ?_
        with_reducible repeat' first | refine sbn ?_ | refine bnd (ldM3 (by assumption)) ?_ | refine bnd (decM3 _ _ _) ?_ | refine bnd (ldI0 (by assumption)) ?_ | refine bnd (ldI1 (by assumption)) ?_ | refine bnd (ldL2 (by assumption)) ?_ | refine jn ?_ | refine gp1 ?_ ?_ | refine gp2 ?_ ?_ ?_ | refine gp3 ?_ ?_ ?_ ?_ | refine bnd (ldZ0 (by assumption)) ?_ | refine bnd (ldZ1 (by assumption)) ?_ | refine bnd (ldZ2 (by assumption)) ?_ | rfl
        refine bnd e7 ?_
        unfold ref04_Inverse_l1
        obtain ⟨bot1, hbot1⟩ := iterK_of (fun _ _ _ _ _ _ _ => none) (ref04_Inverse_l1b k0 K _) (show R + 1 ≤ k0 by omega)
        rw [hbot1]
        refine (e8 _ bot1).trans ?_
        rw [w1 (by omega)]
      refine ⟨h', c', ?_⟩
      rw [es]
      by_cases c2 : (stepsN R R R m (j + 1) (j + 1) (stepG R j l j g) (stepU R R j l j g u)).1 < R
      · rw [if_pos c2] at e' ⊢
        exact fun J bot => (step J bot).trans (e' J bot)
      · rw [if_neg c2] at e' ⊢
        exact ⟨e'.1, fun J bot => (step J bot).trans (e'.2 J bot)⟩
end
theorem rinverse_spec {k0 : Nat} (hk : 200000 ≤ k0) (D : CallF) {h : AHeap} {r c : Int} {s : Slc} {xs : List Int} (I : Row encI h s xs) (hl : xs.length ≤ 100000) :
    ∃ h' res, ref04_Inverse k0 D (r, c, s) h = some (res, h') ∧ Out h h' res (invP r c xs) ∧ Keeps h h' := by
  obtain ⟨g1, hg1⟩ : ∃ g1, g1 = h.new (.cells [.int .i64 r, .int .i64 c, .slice s.a s.len s.cap] 54 true 0) := ⟨_, rfl⟩
  have k1 : Keeps h g1 := hg1 ▸ Keeps.new h _
  have n1 : g1.next = h.next + 1 := by rw [hg1]; rfl
  obtain ⟨g2, hg2⟩ : ∃ g2, g2 = g1.new (.cells [.int .i64 0, .int .i64 0, .slice none 0 0] 54 true 0) := ⟨_, rfl⟩
  have k2 : Keeps g1 g2 := hg2 ▸ Keeps.new g1 _
  have n2 : g2.next = g1.next + 1 := by rw [hg2]; rfl
  have k02 := k1.trans k2
  have a2 : g2.get h.next = some (.cells (mcell r c s) 54 true 0) := by rw [k2.oth _ (by omega) (fun f => f), hg1]; simp [mcell]
  have y2 : g2.get g1.next = some (.cells (mcell 0 0 nilS) 54 true 0) := by rw [hg2]; simp [mcell, nilS]
  obtain ⟨g3, e3, k3⟩ := rcheck_spec (k0 := k0) D (r := r) (c := c) (I.keeps k02) (by omega) (by omega)
  have k03 := k02.trans k3
  have a3 : g3.get h.next = some (.cells (mcell r c s) 54 true 0) := by rw [k3.oth _ (by omega) (fun f => f)]; exact a2
  have y3 : g3.get g1.next = some (.cells (mcell 0 0 nilS) 54 true 0) := by rw [k3.oth _ (by omega) (fun f => f)]; exact y2
  have nx3 := k3.nx
  by_cases ec : chk r c xs = 0
  · by_cases es : r = c
    · subst es
      obtain ⟨R, R', g, rfl, eR, hR1, hR2, hC1, hC2, hxs, hel⟩ := chk_ok ec
      obtain rfl : R = R' := by omega
      have hN : R * R ≠ 0 := by have := Nat.mul_pos hR1 hR1; omega
      have hN2 : R * R ≤ 100000 := Nat.le_trans (Nat.mul_le_mul hR2 hR2) (by omega)
      have I3 := I.keeps k03
      rw [hxs] at I3
      obtain ⟨g4, B, e4, k4, nB, m4⟩ := copied_spec (k0 := k0) (R := R) (C := R) D I3 hN hN2 hel
      have nx4 := k4.nx
      obtain ⟨g5, st5, k5, n5, b5⟩ := mvar (h := g4) (e := 54) (r := (R : Int)) (c := (R : Int)) (s := whole B (R * R) (some 2))
      obtain ⟨g6, OB, e6, M6⟩ := rone_spec (show 1000 ≤ k0 by omega) D (h := g5) (n := R) hR1 hR2
      have k6 := M6.ch
      have nx6 := k6.nx
      have nb6 := M6.nb
      have lb6 := M6.lb
      obtain ⟨g7, st7, k7, n7, b7⟩ := mvar (h := g6) (e := 54) (r := (R : Int)) (c := (R : Int)) (s := whole OB (R * R))
      have k37 := ((k4.trans k5).trans k6).trans k7
      have lm := m4.lt
      have o6 : Mx g6 OB (R * R) (oneN R) := ⟨by rw [M6.blk]; unfold matN; rw [mat_ext fun t _ => oneF_N R t], M6.lb, fun t _ => by unfold oneN; split <;> omega⟩
      have S7 : SR g7 B OB h.next g4.next g6.next g1.next R s (some 2) (some 0) g (oneN R) g7 :=
        ⟨((m4.keeps k5).keeps k6).keeps k7, o6.keeps k7, by rw [k37.oth _ (by omega) (fun f => f)]; exact a3, by rw [(k6.trans k7).oth _ (by omega) (fun f => f)]; exact b5, b7, by rw [k37.oth _ (by omega) (fun f => f)]; exact y3,
          by omega, by omega, by omega, by omega, .refl _ _⟩
      have DD' : DR B OB h.next g4.next g6.next g1.next := ⟨by omega, by omega, by omega, by omega, by omega, by omega, by omega, by omega, by omega⟩
      obtain ⟨g8, c8, e8⟩ := rinv_l0 (show 1000 ≤ k0 by omega) D DD' hR2 R 0 g (oneN R) g7 (by omega) S7
      obtain ⟨st, hst⟩ : ∃ st, st = stepsN R R R R 0 0 g (oneN R) := ⟨_, rfl⟩
      rw [← hst] at e8
      have sc := steps_congr (R := R) hR1 hR1 R 0 0 (g := natOf xs) (g' := g) (u := oneN R) (u' := oneN R) (by omega) (by omega) (fun t ht => by rw [hxs]; exact natOf_mat ht) (fun _ _ => rfl)
      rw [← hst] at sc
      have nx8 := c8.nx
      have c08 : Keeps h g8 := (k03.trans k37).beh c8 fun x hx e => by rcases e with e | e <;> omega
      by_cases cr : st.1 < R
      · rw [if_pos cr] at e8
        refine ⟨g8, ((0, 0, nilS), 40), ?_, ?_, c08⟩
        · unfold ref04_Inverse
          dsimp only
          rw [← hg1, ← hg2]
          with_reducible repeat' first | refine sbn ?_ | refine bnd (ldM3 (by assumption)) ?_ | refine bnd (decM3 _ _ _) ?_ | refine bnd (ldI0 (by assumption)) ?_ | refine bnd (ldI1 (by assumption)) ?_ | refine bnd (ldL2 (by assumption)) ?_ | refine jn ?_ | refine gp1 ?_ ?_ | refine gp2 ?_ ?_ ?_ | refine gp3 ?_ ?_ ?_ ?_ | refine bnd (ldZ0 (by assumption)) ?_ | refine bnd (ldZ1 (by assumption)) ?_ | refine bnd (ldZ2 (by assumption)) ?_ | rfl
          refine bnd e3 (ifn (by simp [ec]) ?_)
          with_reducible repeat' first | refine sbn ?_ | refine bnd (ldM3 (by assumption)) ?_ | refine bnd (decM3 _ _ _) ?_ | refine bnd (ldI0 (by assumption)) ?_ | refine bnd (ldI1 (by assumption)) ?_ | refine bnd (ldL2 (by assumption)) ?_ | refine jn ?_ | refine gp1 ?_ ?_ | refine gp2 ?_ ?_ ?_ | refine gp3 ?_ ?_ ?_ ?_ | refine bnd (ldZ0 (by assumption)) ?_ | refine bnd (ldZ1 (by assumption)) ?_ | refine bnd (ldZ2 (by assumption)) ?_ | rfl
          refine ifn (by simp) ?_
          with_reducible repeat' first | refine sbn ?_ | refine bnd (ldM3 (by assumption)) ?_ | refine bnd (decM3 _ _ _) ?_ | refine bnd (ldI0 (by assumption)) ?_ | refine bnd (ldI1 (by assumption)) ?_ | refine bnd (ldL2 (by assumption)) ?_ | refine jn ?_ | refine gp1 ?_ ?_ | refine gp2 ?_ ?_ ?_ | refine gp3 ?_ ?_ ?_ ?_ | refine bnd (ldZ0 (by assumption)) ?_ | refine bnd (ldZ1 (by assumption)) ?_ | refine bnd (ldZ2 (by assumption)) ?_ | rfl
          refine bnd e4 (bnd st5 ?_)
          have b5a : g5.get h.next = some (.cells (mcell R R s) 54 true 0) := by rw [(k4.trans k5).oth _ (by omega) (fun f => f)]; exact a3
          with_reducible repeat' first | refine sbn ?_ | refine bnd (ldM3 (by assumption)) ?_ | refine bnd (decM3 _ _ _) ?_ | refine bnd (ldI0 (by assumption)) ?_ | refine bnd (ldI1 (by assumption)) ?_ | refine bnd (ldL2 (by assumption)) ?_ | refine jn ?_ | refine gp1 ?_ ?_ | refine gp2 ?_ ?_ ?_ | refine gp3 ?_ ?_ ?_ ?_ | refine bnd (ldZ0 (by assumption)) ?_ | refine bnd (ldZ1 (by assumption)) ?_ | refine bnd (ldZ2 (by assumption)) ?_ | rfl
          refine bnd e6 (bnd st7 ?_)
          with_reducible repeat' first | refine sbn ?_ | refine bnd (ldM3 (by assumption)) ?_ | refine bnd (decM3 _ _ _) ?_ | refine bnd (ldI0 (by assumption)) ?_ | refine bnd (ldI1 (by assumption)) ?_ | refine bnd (ldL2 (by assumption)) ?_ | refine jn ?_ | refine gp1 ?_ ?_ | refine gp2 ?_ ?_ ?_ | refine gp3 ?_ ?_ ?_ ?_ | refine bnd (ldZ0 (by assumption)) ?_ | refine bnd (ldZ1 (by assumption)) ?_ | refine bnd (ldZ2 (by assumption)) ?_ | rfl
          unfold ref04_Inverse_l0
          obtain ⟨bot, hbot⟩ := iterK_of (fun _ _ _ _ _ _ => none) (ref04_Inverse_l0b k0 D _) (show R + 1 ≤ k0 by omega)
          rw [hbot]
          exact e8 _ bot
        · unfold invP
          rw [if_neg (fun h => h ec), if_neg (fun h => h rfl)]
          dsimp only
          rw [if_pos (show (stepsN (R : Int).toNat (R : Int).toNat (R : Int).toNat (R : Int).toNat 0 0 (natOf xs) (oneN (R : Int).toNat)).1 < (R : Int).toNat from by rw [Int.toNat_natCast, sc.1]; exact cr)]
          exact Out.no _
      · rw [if_neg cr] at e8
        obtain ⟨S8, e8⟩ := e8
        have cu8 := S8.cu
        have cy8 := S8.cy
        refine ⟨g8.set g1.next (.cells (mcell R R (whole OB (R * R))) 54 true 0), ((R, R, whole OB (R * R)), 0), ?_, ?_, c08.beh (T := (· = g1.next)) (Chg.set (.inr rfl)) fun x hx e => by
          have e : x = g1.next := e
          omega⟩
        · unfold ref04_Inverse
          dsimp only
          rw [← hg1, ← hg2]
          with_reducible repeat' first | refine sbn ?_ | refine bnd (ldM3 (by assumption)) ?_ | refine bnd (decM3 _ _ _) ?_ | refine bnd (ldI0 (by assumption)) ?_ | refine bnd (ldI1 (by assumption)) ?_ | refine bnd (ldL2 (by assumption)) ?_ | refine jn ?_ | refine gp1 ?_ ?_ | refine gp2 ?_ ?_ ?_ | refine gp3 ?_ ?_ ?_ ?_ | refine bnd (ldZ0 (by assumption)) ?_ | refine bnd (ldZ1 (by assumption)) ?_ | refine bnd (ldZ2 (by assumption)) ?_ | rfl
          refine bnd e3 (ifn (by simp [ec]) ?_)
          with_reducible repeat' first | refine sbn ?_ | refine bnd (ldM3 (by assumption)) ?_ | refine bnd (decM3 _ _ _) ?_ | refine bnd (ldI0 (by assumption)) ?_ | refine bnd (ldI1 (by assumption)) ?_ | refine bnd (ldL2 (by assumption)) ?_ | refine jn ?_ | refine gp1 ?_ ?_ | refine gp2 ?_ ?_ ?_ | refine gp3 ?_ ?_ ?_ ?_ | refine bnd (ldZ0 (by assumption)) ?_ | refine bnd (ldZ1 (by assumption)) ?_ | refine bnd (ldZ2 (by assumption)) ?_ | rfl
          refine ifn (by simp) ?_
          with_reducible repeat' first | refine sbn ?_ | refine bnd (ldM3 (by assumption)) ?_ | refine bnd (decM3 _ _ _) ?_ | refine bnd (ldI0 (by assumption)) ?_ | refine bnd (ldI1 (by assumption)) ?_ | refine bnd (ldL2 (by assumption)) ?_ | refine jn ?_ | refine gp1 ?_ ?_ | refine gp2 ?_ ?_ ?_ | refine gp3 ?_ ?_ ?_ ?_ | refine bnd (ldZ0 (by assumption)) ?_ | refine bnd (ldZ1 (by assumption)) ?_ | refine bnd (ldZ2 (by assumption)) ?_ | rfl
          refine bnd e4 (bnd st5 ?_)
          have b5a : g5.get h.next = some (.cells (mcell R R s) 54 true 0) := by rw [(k4.trans k5).oth _ (by omega) (fun f => f)]; exact a3
          with_reducible repeat' first | refine sbn ?_ | refine bnd (ldM3 (by assumption)) ?_ | refine bnd (decM3 _ _ _) ?_ | refine bnd (ldI0 (by assumption)) ?_ | refine bnd (ldI1 (by assumption)) ?_ | refine bnd (ldL2 (by assumption)) ?_ | refine jn ?_ | refine gp1 ?_ ?_ | refine gp2 ?_ ?_ ?_ | refine gp3 ?_ ?_ ?_ ?_ | refine bnd (ldZ0 (by assumption)) ?_ | refine bnd (ldZ1 (by assumption)) ?_ | refine bnd (ldZ2 (by assumption)) ?_ | rfl
          refine bnd e6 (bnd st7 ?_)
          with_reducible repeat' first | refine sbn ?_ | refine bnd (ldM3 (by assumption)) ?_ | refine bnd (decM3 _ _ _) ?_ | refine bnd (ldI0 (by assumption)) ?_ | refine bnd (ldI1 (by assumption)) ?_ | refine bnd (ldL2 (by assumption)) ?_ | refine jn ?_ | refine gp1 ?_ ?_ | refine gp2 ?_ ?_ ?_ | refine gp3 ?_ ?_ ?_ ?_ | refine bnd (ldZ0 (by assumption)) ?_ | refine bnd (ldZ1 (by assumption)) ?_ | refine bnd (ldZ2 (by assumption)) ?_ | rfl
          unfold ref04_Inverse_l0
          obtain ⟨bot, hbot⟩ := iterK_of (fun _ _ _ _ _ _ => none) (ref04_Inverse_l0b k0 D _) (show R + 1 ≤ k0 by omega)
          rw [hbot]
          refine (e8 _ bot).trans ?_
          exact yfin cu8 cy8 fun x h => some ((x, (0 : Int)), h)
        · unfold invP
          rw [if_neg (fun h => h ec), if_neg (fun h => h rfl)]
          dsimp only
          rw [if_neg (show ¬ (stepsN (R : Int).toNat (R : Int).toNat (R : Int).toNat (R : Int).toNat 0 0 (natOf xs) (oneN (R : Int).toNat)).1 < (R : Int).toNat from by rw [Int.toNat_natCast, sc.1]; exact cr)]
          simp only [Int.toNat_natCast]
          have u9 : Mx (g8.set g1.next (.cells (mcell R R (whole OB (R * R))) 54 true 0)) OB (R * R) st.2.2 := S8.b.chg (S := (· = g1.next)) (Chg.set (.inr rfl)) (by omega)
          exact ⟨rfl, rfl, rfl, (u9.congr fun t ht => (sc.2.2 t ht).symm).inM (sp := some 0) rfl, whole_off (by omega)⟩
    · refine ⟨g3, ((0, 0, nilS), 4), ?_, ?_, k03⟩
      · unfold ref04_Inverse
        dsimp only
        rw [← hg1, ← hg2]
        with_reducible repeat' first | refine sbn ?_ | refine bnd (ldM3 (by assumption)) ?_ | refine bnd (decM3 _ _ _) ?_ | refine bnd (ldI0 (by assumption)) ?_ | refine bnd (ldI1 (by assumption)) ?_ | refine bnd (ldL2 (by assumption)) ?_ | refine jn ?_ | refine gp1 ?_ ?_ | refine gp2 ?_ ?_ ?_ | refine gp3 ?_ ?_ ?_ ?_ | refine bnd (ldZ0 (by assumption)) ?_ | refine bnd (ldZ1 (by assumption)) ?_ | refine bnd (ldZ2 (by assumption)) ?_ | rfl
        refine bnd e3 (ifn (by simp [ec]) ?_)
        with_reducible repeat' first | refine sbn ?_ | refine bnd (ldM3 (by assumption)) ?_ | refine bnd (decM3 _ _ _) ?_ | refine bnd (ldI0 (by assumption)) ?_ | refine bnd (ldI1 (by assumption)) ?_ | refine bnd (ldL2 (by assumption)) ?_ | refine jn ?_ | refine gp1 ?_ ?_ | refine gp2 ?_ ?_ ?_ | refine gp3 ?_ ?_ ?_ ?_ | refine bnd (ldZ0 (by assumption)) ?_ | refine bnd (ldZ1 (by assumption)) ?_ | refine bnd (ldZ2 (by assumption)) ?_ | rfl
        refine ifp (by simpa using es) ?_
        exact zfin y3 fun x h => some ((x, (4 : Int)), h)
      · unfold invP
        rw [if_neg (fun h => h ec), if_pos es]
        exact Out.no _
  · refine ⟨g3, ((0, 0, nilS), chk r c xs), ?_, ?_, k03⟩
    · unfold ref04_Inverse
      dsimp only
      rw [← hg1, ← hg2]
      with_reducible repeat' first | refine sbn ?_ | refine bnd (ldM3 (by assumption)) ?_ | refine bnd (decM3 _ _ _) ?_ | refine bnd (ldI0 (by assumption)) ?_ | refine bnd (ldI1 (by assumption)) ?_ | refine bnd (ldL2 (by assumption)) ?_ | refine jn ?_ | refine gp1 ?_ ?_ | refine gp2 ?_ ?_ ?_ | refine gp3 ?_ ?_ ?_ ?_ | refine bnd (ldZ0 (by assumption)) ?_ | refine bnd (ldZ1 (by assumption)) ?_ | refine bnd (ldZ2 (by assumption)) ?_ | rfl
      refine bnd e3 (ifp (by simpa using ec) ?_)
      exact zfin y3 fun x h => some ((x, chk r c xs), h)
    · unfold invP
      rw [if_pos ec]
      exact Out.no _
end Gy
namespace Gy
open Go Gx Go.Proofs
def elimB (C r j i : Nat) (g : Nat → Nat) : Nat → Nat := fun t => if r < t / C ∧ t / C < i then g t ^^^ mulT (g (r * C + t % C)) (g (t / C * C + j)) else g t
def stepB (R C j l r : Nat) (g : Nat → Nat) : Nat → Nat := let g1 := swapR C l r g; elimB C r j R (divR C r (g1 (r * C + j)) g1)
def rankS (R C : Nat) : Nat → Nat → Nat → (Nat → Nat) → Nat
  | 0, _, r, _ => r
  | m + 1, j, r, g => if r < R then let l := leadN C j g (R - r) r
      if l = R then rankS R C m (j + 1) r g else rankS R C m (j + 1) (r + 1) (stepB R C j l r g)
    else r
theorem leadN_congr {R C j : Nat} (hj : j < C) {r : Nat} {g g' : Nat → Nat} (h : ∀ t, t < R * C → r ≤ t / C → g t = g' t) : ∀ n i, i + n = R → r ≤ i → leadN C j g n i = leadN C j g' n i
  | 0, _, _, _ => rfl
  | n + 1, i, hi, hr => by
    have := le_row (c := C) (show i < R by omega)
    unfold leadN
    rw [h (i * C + j) (by omega) (by rw [pos_div hj]; exact hr), leadN_congr hj h n (i + 1) (by omega) (by omega)]
theorem rankS_eq {R C : Nat} (hC : 0 < C) : ∀ (m j r : Nat) {g g' u : Nat → Nat}, j + m = C → r ≤ R → (∀ t, t < R * C → r ≤ t / C → g t = g' t) → rankS R C m j r g' = (stepsN R C 1 m j r g u).1
  | 0, _, _, _, _, _, _, _, _ => rfl
  | m + 1, j, r, g, g', u, hj, hr, h => by
    have hj' : j < C := by omega
    simp only [stepsN, rankS]
    by_cases c : r < R
    · rw [if_pos c, if_pos c, ← leadN_congr hj' h (R - r) r (by omega) (Nat.le_refl _)]
      obtain ⟨l, hl⟩ : ∃ l, l = leadN C j g (R - r) r := ⟨_, rfl⟩
      have hle := leadN_le C j g (R - r) r
      rw [← hl] at hle ⊢
      by_cases d : l = R
      · rw [if_pos d, if_pos d]
        exact rankS_eq hC m (j + 1) r (by omega) hr h
      · rw [if_neg d, if_neg d]
        have hlR : l < R := by omega
        have row : ∀ i x, i < R → x < C → i * C + x < R * C := fun i x hi hx => by have := le_row (c := C) hi; omega
        have sw : ∀ t, t < R * C → r ≤ t / C → swapR C l r g t = swapR C l r g' t := fun t ht hr' => by
          have hm := Nat.mod_lt t hC
          unfold swapR
          rw [h _ (row r _ c hm) (by rw [pos_div hm]; omega), h _ (row l _ hlR hm) (by rw [pos_div hm]; omega), h t ht hr']
        have by' : swapR C l r g (r * C + j) = swapR C l r g' (r * C + j) := sw _ (row r j c hj') (by rw [pos_div hj']; omega)
        have dv : ∀ t, t < R * C → r ≤ t / C → divR C r (swapR C l r g (r * C + j)) (swapR C l r g) t = divR C r (swapR C l r g' (r * C + j)) (swapR C l r g') t := fun t ht hr' => by
          unfold divR; rw [sw t ht hr', by']
        refine rankS_eq hC m (j + 1) (r + 1) (by omega) (by omega) fun t ht hr' => ?_
        have hd := (Nat.div_lt_iff_lt_mul hC).2 ht
        have hm := Nat.mod_lt t hC
        unfold stepG stepB elimG elimB
        rw [if_neg (by omega), if_pos (by omega), dv t ht (by omega), dv _ (row r _ c hm) (by rw [pos_div hm]; omega), dv _ (row _ j hd hj') (by rw [pos_div hj']; omega)]
    · rw [if_neg c, if_neg c]
section
variable {k0 : Nat} {H0 : AHeap} {B oa ol R C : Nat} {s : Slc} {sp : Option Nat} {g : Nat → Nat}
structure SQ (H0 : AHeap) (B oa ol R C : Nat) (s : Slc) (sp : Option Nat) (g : Nat → Nat) (h : AHeap) : Prop where
  a : Mx h B (R * C) g
  ca : h.get oa = some (.cells (mcell R C s) 54 true 0)
  cl : h.get ol = some (.cells (mcell R C (whole B (R * C) sp)) 54 true 0)
  la : oa < h.next
  ll : ol < h.next
  ch : Chg (fun x => x = B) H0 h
theorem SQ.keeps {h h' : AHeap} (S : SQ H0 B oa ol R C s sp g h) (k : Keeps h h') : SQ H0 B oa ol R C s sp g h' :=
  ⟨S.a.keeps k, by rw [k.oth _ S.la (fun f => f)]; exact S.ca, by rw [k.oth _ S.ll (fun f => f)]; exact S.cl, Nat.lt_of_lt_of_le S.la k.nx, Nat.lt_of_lt_of_le S.ll k.nx, S.ch.trans (Chg.keeps k)⟩
theorem SQ.op {h h' : AHeap} {g' : Nat → Nat} (S : SQ H0 B oa ol R C s sp g h) (n1 : oa ≠ B) (n2 : ol ≠ B) (m : Mx h' B (R * C) g') (k : Chg (· = B) h h') : SQ H0 B oa ol R C s sp g' h' :=
  ⟨m, by rw [k.oth _ S.la n1]; exact S.ca, by rw [k.oth _ S.ll n2]; exact S.cl, Nat.lt_of_lt_of_le S.la k.nx, Nat.lt_of_lt_of_le S.ll k.nx, S.ch.trans k⟩
theorem SQ.congr {h : AHeap} {g' : Nat → Nat} (S : SQ H0 B oa ol R C s sp g h) (e : ∀ t, t < R * C → g t = g' t) : SQ H0 B oa ol R C s sp g' h := ⟨S.a.congr e, S.ca, S.cl, S.la, S.ll, S.ch⟩
theorem rrank_l1 (hk : 1000 ≤ k0) (K : CallF) (n1 : oa ≠ B) (n2 : ol ≠ B) (hR : R ≤ 255) (hC : C ≤ 255) {j r : Nat} (hj : j < C) (hr : r < R) : ∀ (m i : Nat) (h : AHeap), i + m = R → r < i → SQ H0 B oa ol R C s sp (elimB C r j i g) h →
    ∃ h', SQ H0 B oa ol R C s sp (elimB C r j R g) h' ∧ ∀ J bot, iterK bot (m + 1) (ref04_Rank_l1b k0 K J) (some ⟨oa, 0, none⟩) (some ⟨ol, 0, none⟩) (r : Int) (j : Int) (i : Int) h = J (some ⟨oa, 0, none⟩) (some ⟨ol, 0, none⟩) (r : Int) (j : Int) h' := by
  intro m
  have hs : R * C ≤ 100000 := Nat.le_trans (Nat.mul_le_mul hR hC) (by omega)
  have hC0 : 0 < C := by omega
  induction m with
  | zero =>
    intro i h hi _ S
    obtain rfl : i = R := by omega
    refine ⟨h, S, fun J bot => ?_⟩
    have ca := S.ca
    rw [iterK_s, ref04_Rank_l1b]
    with_reducible repeat' first | refine sbn ?_ | refine bnd (ldM3 (by assumption)) ?_ | refine bnd (decM3 _ _ _) ?_ | refine bnd (ldI0 (by assumption)) ?_ | refine bnd (ldI1 (by assumption)) ?_ | refine bnd (ldL2 (by assumption)) ?_ | refine jn ?_ | refine gp1 ?_ ?_ | refine gp2 ?_ ?_ ?_ | refine gp3 ?_ ?_ ?_ ?_ | refine bnd (ldZ0 (by assumption)) ?_ | refine bnd (ldZ1 (by assumption)) ?_ | refine bnd (ldZ2 (by assumption)) ?_ | rfl
    exact ifn (by rw [decide_eq_true_eq]; omega) rfl
  | succ m ih =>
    intro i h hi hri S
    have hi' : i < R := by omega
    have pi := le_row (c := C) hi'
    have ca := S.ca
    have cl := S.cl
    obtain ⟨h1, e1, k1⟩ := mx_at S.a (sp := sp) k0 K hi' hj hs
    have geq : elimB C r j i g (i * C + j) = g (i * C + j) := by
      unfold elimB; rw [pos_div hj, if_neg (by omega)]
    have gel := S.a.el (i * C + j) (by omega)
    rw [geq] at e1 gel
    have S1 := S.keeps k1
    have cl1 := S1.cl
    obtain ⟨h3, e3, m3, c3⟩ := mradd_spec hk K (sp := sp) S1.a hC0 hC hs hi' hr (by omega) gel
    obtain ⟨h', S', e'⟩ := ih (i + 1) h3 (by omega) (by omega) ((S1.op n1 n2 m3 c3).congr fun t _ => by
      have ht := Nat.mod_lt t hC0
      have er : elimB C r j i g (r * C + t % C) = g (r * C + t % C) := by
        unfold elimB; rw [pos_div ht, if_neg (by omega)]
      unfold addR
      dsimp only
      rw [er]
      unfold elimB
      by_cases d : t / C = i
      · rw [if_pos d, if_neg (by omega), if_pos (by omega), d]
      · rw [if_neg d]
        by_cases d2 : r < t / C ∧ t / C < i
        · rw [if_pos d2, if_pos (by omega)]
        · rw [if_neg d2, if_neg (by omega)])
    refine ⟨h', S', fun J bot => ?_⟩
    rw [iterK_s, ref04_Rank_l1b]
    with_reducible repeat' first | refine sbn ?_ | refine bnd (ldM3 (by assumption)) ?_ | refine bnd (decM3 _ _ _) ?_ | refine bnd (ldI0 (by assumption)) ?_ | refine bnd (ldI1 (by assumption)) ?_ | refine bnd (ldL2 (by assumption)) ?_ | refine jn ?_ | refine gp1 ?_ ?_ | refine gp2 ?_ ?_ ?_ | refine gp3 ?_ ?_ ?_ ?_ | refine bnd (ldZ0 (by assumption)) ?_ | refine bnd (ldZ1 (by assumption)) ?_ | refine bnd (ldZ2 (by assumption)) ?_ | rfl
    refine ifp (by rw [decide_eq_true_eq]; omega) ?_
    with_reducible repeat' first | refine sbn ?_ | refine bnd (ldM3 (by assumption)) ?_ | refine bnd (decM3 _ _ _) ?_ | refine bnd (ldI0 (by assumption)) ?_ | refine bnd (ldI1 (by assumption)) ?_ | refine bnd (ldL2 (by assumption)) ?_ | refine jn ?_ | refine gp1 ?_ ?_ | refine gp2 ?_ ?_ ?_ | refine gp3 ?_ ?_ ?_ ?_ | refine bnd (ldZ0 (by assumption)) ?_ | refine bnd (ldZ1 (by assumption)) ?_ | refine bnd (ldZ2 (by assumption)) ?_ | rfl
    refine bnd e1 ?_
    with_reducible repeat' first | refine sbn ?_ | refine bnd (ldM3 (by assumption)) ?_ | refine bnd (decM3 _ _ _) ?_ | refine bnd (ldI0 (by assumption)) ?_ | refine bnd (ldI1 (by assumption)) ?_ | refine bnd (ldL2 (by assumption)) ?_ | refine jn ?_ | refine gp1 ?_ ?_ | refine gp2 ?_ ?_ ?_ | refine gp3 ?_ ?_ ?_ ?_ | refine bnd (ldZ0 (by assumption)) ?_ | refine bnd (ldZ1 (by assumption)) ?_ | refine bnd (ldZ2 (by assumption)) ?_ | rfl
    refine bnd e3 ?_
    rw [w1 (by omega)]
    exact e' J bot
theorem rrank_l0 (hk : 1000 ≤ k0) (K : CallF) (n1 : oa ≠ B) (n2 : ol ≠ B) (hR : R ≤ 255) (hC : C ≤ 255) : ∀ (m j r : Nat) (g : Nat → Nat) (h : AHeap), j + m = C → r ≤ R → SQ H0 B oa ol R C s sp g h →
    ∃ h', Chg (· = B) H0 h' ∧ ∀ J bot, iterK bot (m + 1) (ref04_Rank_l0b k0 K J) (some ⟨oa, 0, none⟩) (some ⟨ol, 0, none⟩) (r : Int) (j : Int) h = J (rankS R C m j r g : Int) h' := by
  intro m
  have hs : R * C ≤ 100000 := Nat.le_trans (Nat.mul_le_mul hR hC) (by omega)
  induction m with
  | zero =>
    intro j r g h hj hr S
    refine ⟨h, S.ch, fun J bot => ?_⟩
    have ca := S.ca
    rw [iterK_s, ref04_Rank_l0b]
    with_reducible repeat' first | refine sbn ?_ | refine bnd (ldM3 (by assumption)) ?_ | refine bnd (decM3 _ _ _) ?_ | refine bnd (ldI0 (by assumption)) ?_ | refine bnd (ldI1 (by assumption)) ?_ | refine bnd (ldL2 (by assumption)) ?_ | refine jn ?_ | refine gp1 ?_ ?_ | refine gp2 ?_ ?_ ?_ | refine gp3 ?_ ?_ ?_ ?_ | refine bnd (ldZ0 (by assumption)) ?_ | refine bnd (ldZ1 (by assumption)) ?_ | refine bnd (ldZ2 (by assumption)) ?_ | rfl
    exact ifn (by rw [decide_eq_true_eq]; omega) (ifn (by simp) rfl)
  | succ m ih =>
    intro j r g h hj hr S
    have hj' : j < C := by omega
    have hC0 : 0 < C := by omega
    have ca := S.ca
    have cl := S.cl
    by_cases c0 : r < R
    · obtain ⟨h1, e1, k1⟩ := mrlead_spec hk K (sp := sp) S.a hj' hR hs (show r ≤ R by omega)
      have S1 := S.keeps k1
      have cl1 := S1.cl
      obtain ⟨l, hl⟩ : ∃ l, l = leadN C j g (R - r) r := ⟨_, rfl⟩
      have hle := leadN_le C j g (R - r) r
      rw [← hl] at e1 hle
      by_cases c1 : l = R
      · rw [if_pos c1] at e1
        obtain ⟨h', c', e'⟩ := ih (j + 1) r g h1 (by omega) hr S1
        refine ⟨h', c', fun J bot => ?_⟩
        simp only [rankS]
        rw [if_pos c0, ← hl, if_pos c1]
        rw [iterK_s, ref04_Rank_l0b]
        with_reducible repeat' first | refine sbn ?_ | refine bnd (ldM3 (by assumption)) ?_ | refine bnd (decM3 _ _ _) ?_ | refine bnd (ldI0 (by assumption)) ?_ | refine bnd (ldI1 (by assumption)) ?_ | refine bnd (ldL2 (by assumption)) ?_ | refine jn ?_ | refine gp1 ?_ ?_ | refine gp2 ?_ ?_ ?_ | refine gp3 ?_ ?_ ?_ ?_ | refine bnd (ldZ0 (by assumption)) ?_ | refine bnd (ldZ1 (by assumption)) ?_ | refine bnd (ldZ2 (by assumption)) ?_ | rfl
        refine ifp (by rw [decide_eq_true_eq]; omega) ?_
        with_reducible repeat' first | refine sbn ?_ | refine bnd (ldM3 (by assumption)) ?_ | refine bnd (decM3 _ _ _) ?_ | refine bnd (ldI0 (by assumption)) ?_ | refine bnd (ldI1 (by assumption)) ?_ | refine bnd (ldL2 (by assumption)) ?_ | refine jn ?_ | refine gp1 ?_ ?_ | refine gp2 ?_ ?_ ?_ | refine gp3 ?_ ?_ ?_ ?_ | refine bnd (ldZ0 (by assumption)) ?_ | refine bnd (ldZ1 (by assumption)) ?_ | refine bnd (ldZ2 (by assumption)) ?_ | rfl
        refine ifp (by rw [decide_eq_true_eq]; omega) ?_
        with_reducible repeat' first | refine sbn ?_ | refine bnd (ldM3 (by assumption)) ?_ | refine bnd (decM3 _ _ _) ?_ | refine bnd (ldI0 (by assumption)) ?_ | refine bnd (ldI1 (by assumption)) ?_ | refine bnd (ldL2 (by assumption)) ?_ | refine jn ?_ | refine gp1 ?_ ?_ | refine gp2 ?_ ?_ ?_ | refine gp3 ?_ ?_ ?_ ?_ | refine bnd (ldZ0 (by assumption)) ?_ | refine bnd (ldZ1 (by assumption)) ?_ | refine bnd (ldZ2 (by assumption)) ?_ | rfl
        refine bnd e1 (ifp rfl ?_)
        dsimp only
        rw [w1 (by omega)]
        exact e' J bot
      · rw [if_neg c1] at e1
        have hlR : l < R := by omega
        obtain ⟨h2, e2, m2, c2⟩ := mrswap_spec hk K (sp := sp) S1.a hC0 hC hs hlR c0
        have S2 := S1.op n1 n2 m2 c2
        have cl2 := S2.cl
        obtain ⟨h4, e4, k4⟩ := mx_at S2.a (sp := sp) k0 K c0 hj' hs
        have S4 := S2.keeps k4
        have cl4 := S4.cl
        have pj := le_row (c := C) c0
        obtain ⟨p, hp⟩ : ∃ p, p = swapR C l r g (r * C + j) := ⟨_, rfl⟩
        have plt : p < 256 := by rw [hp]; exact S2.a.el _ (by omega)
        have pne : p ≠ 0 := by
          have := leadN_ne C j g (R - r) r (by omega)
          rw [← hl] at this
          rw [hp]
          unfold swapR
          rw [pos_div hj', pos_mod hj']
          by_cases e : r = l
          · rw [if_pos e]; rw [← e] at this; exact this
          · rw [if_neg e, if_pos rfl]; exact this
        have e5 := rover_spec (k := k0) (by omega) K (a := 1) (by omega) plt pne h4
        rw [← hp] at e4
        obtain ⟨h6, e6, m6, c6⟩ := mrscale_spec hk K (sp := sp) S4.a hC0 hC hs c0 (divT_lt (x := 1) (y := p))
        have S6 := (S4.op n1 n2 m6 c6).congr (scl_div S4.a.el plt pne)
        obtain ⟨h8, S8, e8⟩ := rrank_l1 hk K n1 n2 hR hC (g := divR C r p (swapR C l r g)) hj' c0 (R - (r + 1)) (r + 1) h6 (by omega) (by omega) (S6.congr fun t _ => by unfold elimB; rw [if_neg (by omega)])
        have eg : elimB C r j R (divR C r p (swapR C l r g)) = stepB R C j l r g := by rw [hp]; rfl
        rw [eg] at S8
        obtain ⟨h', c', e'⟩ := ih (j + 1) (r + 1) _ h8 (by omega) (by omega) S8
        refine ⟨h', c', fun J bot => ?_⟩
        simp only [rankS]
        rw [if_pos c0, ← hl, if_neg c1]
        rw [iterK_s, ref04_Rank_l0b]
        with_reducible repeat' first | refine sbn ?_ | refine bnd (ldM3 (by assumption)) ?_ | refine bnd (decM3 _ _ _) ?_ | refine bnd (ldI0 (by assumption)) ?_ | refine bnd (ldI1 (by assumption)) ?_ | refine bnd (ldL2 (by assumption)) ?_ | refine jn ?_ | refine gp1 ?_ ?_ | refine gp2 ?_ ?_ ?_ | refine gp3 ?_ ?_ ?_ ?_ | refine bnd (ldZ0 (by assumption)) ?_ | refine bnd (ldZ1 (by assumption)) ?_ | refine bnd (ldZ2 (by assumption)) ?_ | rfl
        refine ifp (by rw [decide_eq_true_eq]; omega) ?_
        with_reducible repeat' first | refine sbn ?_ | refine bnd (ldM3 (by assumption)) ?_ | refine bnd (decM3 _ _ _) ?_ | refine bnd (ldI0 (by assumption)) ?_ | refine bnd (ldI1 (by assumption)) ?_ | refine bnd (ldL2 (by assumption)) ?_ | refine jn ?_ | refine gp1 ?_ ?_ | refine gp2 ?_ ?_ ?_ | refine gp3 ?_ ?_ ?_ ?_ | refine bnd (ldZ0 (by assumption)) ?_ | refine bnd (ldZ1 (by assumption)) ?_ | refine bnd (ldZ2 (by assumption)) ?_ | rfl
        refine ifp (by rw [decide_eq_true_eq]; omega) ?_
        with_reducible repeat' first | refine sbn ?_ | refine bnd (ldM3 (by assumption)) ?_ | refine bnd (decM3 _ _ _) ?_ | refine bnd (ldI0 (by assumption)) ?_ | refine bnd (ldI1 (by assumption)) ?_ | refine bnd (ldL2 (by assumption)) ?_ | refine jn ?_ | refine gp1 ?_ ?_ | refine gp2 ?_ ?_ ?_ | refine gp3 ?_ ?_ ?_ ?_ | refine bnd (ldZ0 (by assumption)) ?_ | refine bnd (ldZ1 (by assumption)) ?_ | refine bnd (ldZ2 (by assumption)) ?_ | rfl
        refine bnd e1 (ifn (by simp) ?_)
        with_reducible repeat' first | refine sbn ?_ | refine bnd (ldM3 (by assumption)) ?_ | refine bnd (decM3 _ _ _) ?_ | refine bnd (ldI0 (by assumption)) ?_ | refine bnd (ldI1 (by assumption)) ?_ | refine bnd (ldL2 (by assumption)) ?_ | refine jn ?_ | refine gp1 ?_ ?_ | refine gp2 ?_ ?_ ?_ | refine gp3 ?_ ?_ ?_ ?_ | refine bnd (ldZ0 (by assumption)) ?_ | refine bnd (ldZ1 (by assumption)) ?_ | refine bnd (ldZ2 (by assumption)) ?_ | rfl
        refine bnd e2 ?_
        with_reducible repeat' first | refine sbn ?_ | refine bnd (ldM3 (by assumption)) ?_ | refine bnd (decM3 _ _ _) ?_ | refine bnd (ldI0 (by assumption)) ?_ | refine bnd (ldI1 (by assumption)) ?_ | refine bnd (ldL2 (by assumption)) ?_ | refine jn ?_ | refine gp1 ?_ ?_ | refine gp2 ?_ ?_ ?_ | refine gp3 ?_ ?_ ?_ ?_ | refine bnd (ldZ0 (by assumption)) ?_ | refine bnd (ldZ1 (by assumption)) ?_ | refine bnd (ldZ2 (by assumption)) ?_ | rfl
        refine bnd e4 (bnd e5 ?_)
        with_reducible repeat' first | refine sbn ?_ | refine bnd (ldM3 (by assumption)) ?_ | refine bnd (decM3 _ _ _) ?_ | refine bnd (ldI0 (by assumption)) ?_ | refine bnd (ldI1 (by assumption)) ?_ | refine bnd (ldL2 (by assumption)) ?_ | refine jn ?_ | refine gp1 ?_ ?_ | refine gp2 ?_ ?_ ?_ | refine gp3 ?_ ?_ ?_ ?_ | refine bnd (ldZ0 (by assumption)) ?_ | refine bnd (ldZ1 (by assumption)) ?_ | refine bnd (ldZ2 (by assumption)) ?_ | rfl
        refine bnd e6 ?_
        with_reducible repeat' first | refine sbn ?_ | refine bnd (ldM3 (by assumption)) ?_ | refine bnd (decM3 _ _ _) ?_ | refine bnd (ldI0 (by assumption)) ?_ | refine bnd (ldI1 (by assumption)) ?_ | refine bnd (ldL2 (by assumption)) ?_ | refine jn ?_ | refine gp1 ?_ ?_ | refine gp2 ?_ ?_ ?_ | refine gp3 ?_ ?_ ?_ ?_ | refine bnd (ldZ0 (by assumption)) ?_ | refine bnd (ldZ1 (by assumption)) ?_ | refine bnd (ldZ2 (by assumption)) ?_ | rfl
        rw [w1 (by omega)]
        unfold ref04_Rank_l1
        obtain ⟨bot1, hbot1⟩ := iterK_of (fun _ _ _ _ _ _ => none) (ref04_Rank_l1b k0 K _) (show R - (r + 1) + 1 ≤ k0 by omega)
        rw [hbot1]
        refine (e8 _ bot1).trans ?_
        rw [w1 (by omega)]
        dsimp only
        rw [w1 (by omega)]
        exact e' J bot
    · refine ⟨h, S.ch, fun J bot => ?_⟩
      simp only [rankS]
      rw [if_neg c0]
      rw [iterK_s, ref04_Rank_l0b]
      with_reducible repeat' first | refine sbn ?_ | refine bnd (ldM3 (by assumption)) ?_ | refine bnd (decM3 _ _ _) ?_ | refine bnd (ldI0 (by assumption)) ?_ | refine bnd (ldI1 (by assumption)) ?_ | refine bnd (ldL2 (by assumption)) ?_ | refine jn ?_ | refine gp1 ?_ ?_ | refine gp2 ?_ ?_ ?_ | refine gp3 ?_ ?_ ?_ ?_ | refine bnd (ldZ0 (by assumption)) ?_ | refine bnd (ldZ1 (by assumption)) ?_ | refine bnd (ldZ2 (by assumption)) ?_ | rfl
      refine ifp (by rw [decide_eq_true_eq]; omega) ?_
      with_reducible repeat' first | refine sbn ?_ | refine bnd (ldM3 (by assumption)) ?_ | refine bnd (decM3 _ _ _) ?_ | refine bnd (ldI0 (by assumption)) ?_ | refine bnd (ldI1 (by assumption)) ?_ | refine bnd (ldL2 (by assumption)) ?_ | refine jn ?_ | refine gp1 ?_ ?_ | refine gp2 ?_ ?_ ?_ | refine gp3 ?_ ?_ ?_ ?_ | refine bnd (ldZ0 (by assumption)) ?_ | refine bnd (ldZ1 (by assumption)) ?_ | refine bnd (ldZ2 (by assumption)) ?_ | rfl
      exact ifn (by rw [decide_eq_true_eq]; omega) rfl
end
theorem rrank_spec {k0 : Nat} (hk : 200000 ≤ k0) (D : CallF) {h : AHeap} {r c : Int} {s : Slc} {xs : List Int} (I : Row encI h s xs) (hl : xs.length ≤ 100000) :
    ∃ h', ref04_Rank k0 D (r, c, s) h = some (rankP r c xs, h') ∧ Keeps h h' := by
  obtain ⟨g1, hg1⟩ : ∃ g1, g1 = h.new (.cells [.int .i64 r, .int .i64 c, .slice s.a s.len s.cap] 54 true 0) := ⟨_, rfl⟩
  have k1 : Keeps h g1 := hg1 ▸ Keeps.new h _
  have n1 : g1.next = h.next + 1 := by rw [hg1]; rfl
  have a1 : g1.get h.next = some (.cells (mcell r c s) 54 true 0) := by rw [hg1]; simp [mcell]
  obtain ⟨g3, e3, k3⟩ := rcheck_spec (k0 := k0) D (r := r) (c := c) (I.keeps k1) (by omega) (by omega)
  have k03 := k1.trans k3
  have a3 : g3.get h.next = some (.cells (mcell r c s) 54 true 0) := by rw [k3.oth _ (by omega) (fun f => f)]; exact a1
  have nx3 := k3.nx
  by_cases ec : chk r c xs = 0
  · obtain ⟨R, C, g, rfl, rfl, hR1, hR2, hC1, hC2, hxs, hel⟩ := chk_ok ec
    have hN : R * C ≠ 0 := by have := Nat.mul_pos hR1 hC1; omega
    have hN2 : R * C ≤ 100000 := Nat.le_trans (Nat.mul_le_mul hR2 hC2) (by omega)
    have I3 := I.keeps k03
    rw [hxs] at I3
    obtain ⟨g4, B, e4, k4, nB, m4⟩ := copied_spec (k0 := k0) (R := R) (C := C) D I3 hN hN2 hel
    have nx4 := k4.nx
    have lm := m4.lt
    obtain ⟨g5, st5, k5, n5, b5⟩ := mvar (h := g4) (e := 54) (r := (R : Int)) (c := (C : Int)) (s := whole B (R * C) (some 2))
    have S5 : SQ g5 B h.next g4.next R C s (some 2) g g5 := ⟨m4.keeps k5, by rw [(k4.trans k5).oth _ (by omega) (fun f => f)]; exact a3, b5, by omega, by omega, .refl _ _⟩
    obtain ⟨g8, c8, e8⟩ := rrank_l0 (show 1000 ≤ k0 by omega) D (by omega) (by omega) hR2 hC2 C 0 0 g g5 (by omega) (by omega) S5
    have hrk := rankS_eq (R := R) hC1 C 0 0 (g := natOf xs) (g' := g) (u := fun _ => 0) (by omega) (by omega) (fun t ht _ => by rw [hxs]; exact natOf_mat ht)
    rw [hrk] at e8
    refine ⟨g8, ?_, ((k03.trans k4).trans k5).beh c8 fun x hx e => by have e : x = B := e; omega⟩
    unfold rankP
    rw [if_neg (fun h => h ec)]
    simp only [Int.toNat_natCast]
    unfold ref04_Rank
    dsimp only
    rw [← hg1]
    with_reducible repeat' first | refine sbn ?_ | refine bnd (ldM3 (by assumption)) ?_ | refine bnd (decM3 _ _ _) ?_ | refine bnd (ldI0 (by assumption)) ?_ | refine bnd (ldI1 (by assumption)) ?_ | refine bnd (ldL2 (by assumption)) ?_ | refine jn ?_ | refine gp1 ?_ ?_ | refine gp2 ?_ ?_ ?_ | refine gp3 ?_ ?_ ?_ ?_ | refine bnd (ldZ0 (by assumption)) ?_ | refine bnd (ldZ1 (by assumption)) ?_ | refine bnd (ldZ2 (by assumption)) ?_ | rfl
    refine bnd e3 (ifn (by simp [ec]) ?_)
    with_reducible repeat' first | refine sbn ?_ | refine bnd (ldM3 (by assumption)) ?_ | refine bnd (decM3 _ _ _) ?_ | refine bnd (ldI0 (by assumption)) ?_ | refine bnd (ldI1 (by assumption)) ?_ | refine bnd (ldL2 (by assumption)) ?_ | refine jn ?_ | refine gp1 ?_ ?_ | refine gp2 ?_ ?_ ?_ | refine gp3 ?_ ?_ ?_ ?_ | refine bnd (ldZ0 (by assumption)) ?_ | refine bnd (ldZ1 (by assumption)) ?_ | refine bnd (ldZ2 (by assumption)) ?_ | rfl
    refine bnd e4 (bnd st5 ?_)
    with_reducible repeat' first | refine sbn ?_ | refine bnd (ldM3 (by assumption)) ?_ | refine bnd (decM3 _ _ _) ?_ | refine bnd (ldI0 (by assumption)) ?_ | refine bnd (ldI1 (by assumption)) ?_ | refine bnd (ldL2 (by assumption)) ?_ | refine jn ?_ | refine gp1 ?_ ?_ | refine gp2 ?_ ?_ ?_ | refine gp3 ?_ ?_ ?_ ?_ | refine bnd (ldZ0 (by assumption)) ?_ | refine bnd (ldZ1 (by assumption)) ?_ | refine bnd (ldZ2 (by assumption)) ?_ | rfl
    unfold ref04_Rank_l0
    obtain ⟨bot, hbot⟩ := iterK_of (fun _ _ _ _ _ => none) (ref04_Rank_l0b k0 D _) (show C + 1 ≤ k0 by omega)
    rw [hbot]
    exact e8 _ bot
  · refine ⟨g3, ?_, k03⟩
    unfold rankP
    rw [if_pos ec]
    unfold ref04_Rank
    dsimp only
    rw [← hg1]
    with_reducible repeat' first | refine sbn ?_ | refine bnd (ldM3 (by assumption)) ?_ | refine bnd (decM3 _ _ _) ?_ | refine bnd (ldI0 (by assumption)) ?_ | refine bnd (ldI1 (by assumption)) ?_ | refine bnd (ldL2 (by assumption)) ?_ | refine jn ?_ | refine gp1 ?_ ?_ | refine gp2 ?_ ?_ ?_ | refine gp3 ?_ ?_ ?_ ?_ | refine bnd (ldZ0 (by assumption)) ?_ | refine bnd (ldZ1 (by assumption)) ?_ | refine bnd (ldZ2 (by assumption)) ?_ | rfl
    exact bnd e3 (ifp (by simpa using ec) rfl)
end Gy
namespace Gy
open Go Gx Go.Proofs
theorem mulP_len (r c : Int) (xs : List Int) (r2 c2 : Int) (ys : List Int) : (mulP r c xs r2 c2 ys).1.2.2.length ≤ 100000 := by
  unfold mulP noM
  split
  · simp
  · rename_i h1
    split
    · simp
    · rename_i h2
      split
      · simp
      · obtain ⟨R, C, g, rfl, rfl, _, hR, _, _, _⟩ := chk_ok (Decidable.not_not.1 h1)
        obtain ⟨R', C', g', rfl, rfl, _, _, _, hC, _⟩ := chk_ok (Decidable.not_not.1 h2)
        simp only [Int.toNat_natCast, matN, mat_length]
        exact Nat.le_trans (Nat.mul_le_mul hR hC) (by omega)
theorem invP_len (r c : Int) (xs : List Int) : (invP r c xs).1.2.2.length ≤ 100000 := by
  unfold invP noM
  split
  · simp
  · rename_i h1
    split
    · simp
    · dsimp only
      split
      · simp
      · obtain ⟨R, C, g, rfl, rfl, _, hR, _, _, _⟩ := chk_ok (Decidable.not_not.1 h1)
        simp only [Int.toNat_natCast, matN, mat_length]
        exact Nat.le_trans (Nat.mul_le_mul hR hR) (by omega)
theorem turnP_len (r c : Int) (xs : List Int) : (turnP r c xs).1.2.2.length ≤ 100000 := by
  unfold turnP noM
  split
  · simp
  · rename_i h1
    obtain ⟨R, C, g, rfl, rfl, _, hR, _, hC, _⟩ := chk_ok (Decidable.not_not.1 h1)
    simp only [Int.toNat_natCast, matN, mat_length]
    exact Nat.le_trans (Nat.mul_le_mul hC hR) (by omega)
theorem pickP_len (r c : Int) (xs rows : List Int) : (pickP r c xs rows).1.2.2.length ≤ 100000 := by
  unfold pickP noM
  split
  · simp
  · rename_i h1
    split
    · simp
    · split
      · obtain ⟨R, C, g, rfl, rfl, _, hR, _, hC, _⟩ := chk_ok (Decidable.not_not.1 h1)
        simp only [Int.toNat_natCast, matN, mat_length]
        exact Nat.le_trans (Nat.mul_le_mul (show rows.length ≤ 255 by omega) hC) (by omega)
      · simp
theorem own_spec {h : AHeap} {rs : Slc} {rows : List Int} (R : Row encI h rs rows) (h47 : 8 * rows.length ≤ 140737488355328) :
    ∃ h' s', Gx.rdS 1 rs (h.new (.cells [] 3 true 0)) = some (rows.map encI) ∧ appendA 1 8 3 (h.new (.cells [] 3 true 0)) (⟨some ⟨h.next, 0, some 0⟩, 0, 0⟩ : Slc) (rows.map encI) rs.len = some (s', h') ∧
      Keeps h h' ∧ Keeps (h.new (.cells [] 3 true 0)) h' ∧ InM h' s' rows ∧ ∀ a, s'.a = some a → h.next ≤ a.block ∧ a.block < h'.next := by
  have k1 : Keeps h (h.new (.cells [] 3 true 0)) := Keeps.new h _
  have rd := Row.rdS (R.keeps k1)
  rw [R.1]
  by_cases e : rows = []
  · subst e
    exact ⟨_, _, rd, append_none (enc := encI), k1, .refl _ _, ⟨Row.nil _ _ _ _, fun h => absurd rfl h⟩, fun a ha => by cases ha; simp⟩
  · have l0 : rows.length ≠ 0 := fun h => e (List.length_eq_zero_iff.1 h)
    refine ⟨_, _, rd, append_fresh (enc := encI) l0 (by omega) (by omega), k1.trans (Keeps.new _ _), Keeps.new _ _, ⟨?_, fun _ => ⟨_, some 2, rfl, rfl, by simp, by simp⟩⟩, fun a ha => by cases ha; simp⟩
    exact Row.of_block (c := rows.map encI) (e := 3) (r := true) (fz := 0) (by simp [outB]) (by simp) fun i x hi => by rw [Nat.zero_add, List.getElem?_map, hi]; rfl
theorem of_spec (k : Nat) (D : CallF) {h : AHeap} {r c : Int} {s : Slc} {xs : List Int} (R : Row encI h s xs) (h47 : 8 * xs.length ≤ 140737488355328) :
    ∃ h' s', law04_of k D (r, c, s) h = some ((r, c, s'), h') ∧ Keeps h h' ∧ InM h' s' xs ∧ ∀ a, s'.a = some a → h.next ≤ a.block ∧ a.block < h'.next := by
  obtain ⟨g1, hg1⟩ : ∃ g1, g1 = h.new (.cells [.int .i64 r, .int .i64 c, .slice s.a s.len s.cap] 54 true 0) := ⟨_, rfl⟩
  have k1 : Keeps h g1 := hg1 ▸ Keeps.new h _
  have n1 : g1.next = h.next + 1 := by rw [hg1]; rfl
  obtain ⟨g2, hg2⟩ : ∃ g2, g2 = g1.new (.cells [.int .i64 0, .int .i64 0, .slice none 0 0] 51 true 0) := ⟨_, rfl⟩
  have k2 : Keeps g1 g2 := hg2 ▸ Keeps.new g1 _
  have n2 : g2.next = g1.next + 1 := by rw [hg2]; rfl
  obtain ⟨g3, hg3⟩ : ∃ g3, g3 = g2.new (.cells [] 3 true 0) := ⟨_, rfl⟩
  have k3 : Keeps g2 g3 := hg3 ▸ Keeps.new g2 _
  have n3 : g3.next = g2.next + 1 := by rw [hg3]; rfl
  have k12 := k1.trans k2
  obtain ⟨g4, s', rd, ap, k24, k34, I4, l4⟩ := own_spec (R.keeps k12) h47
  rw [← hg3] at rd ap k34
  have b2 : g2.get h.next = some (.cells (mcell r c s) 51 true 0) ∨ True := .inr trivial
  have b2 : g2.get h.next = some (.cells (mcell r c s) 54 true 0) := by rw [k2.oth _ (by omega) (fun f => f), hg1]; simp [mcell]
  have b3 : g3.get h.next = some (.cells (mcell r c s) 54 true 0) := by rw [k3.oth _ (by omega) (fun f => f)]; exact b2
  have b4 : g4.get h.next = some (.cells (mcell r c s) 54 true 0) := by rw [k34.oth _ (by omega) (fun f => f)]; exact b3
  have y4 : g4.get g1.next = some (.cells [.int .i64 0, .int .i64 0, .slice none 0 0] 51 true 0) := by rw [k34.oth _ (by omega) (fun f => f), k3.oth _ (by omega) (fun f => f), hg2]; simp
  obtain ⟨g5, hg5⟩ : ∃ g5, g5 = g4.set g1.next (.cells (mcell r c s') 51 true 0) := ⟨_, rfl⟩
  have st : stL 3 ⟨g1.next, 0, none⟩ (mcell r c s') g4 = some g5 := by rw [hg5]; exact stM3 (cs := [.int .i64 0, .int .i64 0, .slice none 0 0]) (e := 51) y4 rfl
  have b5 : g5.get g1.next = some (.cells (mcell r c s') 51 true 0) := by rw [hg5]; simp
  have c5 : Chg (· = g1.next) g4 g5 := hg5 ▸ Chg.set (.inr rfl)
  refine ⟨g5, s', ?_, (k12.trans k24).beh c5 fun x hx e => by have e : x = g1.next := e; omega, I4.chg c5 fun a ha => by have := l4 a ha; omega, fun a ha => by have := l4 a ha; have := c5.nx; omega⟩
  unfold law04_of
  dsimp only
  rw [← hg1, ← hg2, ← hg3]
  with_reducible repeat' first | refine sbn ?_ | refine bnd (ldM3 (by assumption)) ?_ | refine bnd (decM3 _ _ _) ?_ | refine bnd (ldI0 (by assumption)) ?_ | refine bnd (ldI1 (by assumption)) ?_ | refine bnd (ldL2 (by assumption)) ?_ | refine jn ?_ | refine gp1 ?_ ?_ | refine gp2 ?_ ?_ ?_ | refine gp3 ?_ ?_ ?_ ?_ | refine bnd (ldZ0 (by assumption)) ?_ | refine bnd (ldZ1 (by assumption)) ?_ | refine bnd (ldZ2 (by assumption)) ?_ | rfl
  refine bnd rd (bnd ap ?_)
  with_reducible repeat' first | refine sbn ?_ | refine bnd (ldM3 (by assumption)) ?_ | refine bnd (decM3 _ _ _) ?_ | refine bnd (ldI0 (by assumption)) ?_ | refine bnd (ldI1 (by assumption)) ?_ | refine bnd (ldL2 (by assumption)) ?_ | refine jn ?_ | refine gp1 ?_ ?_ | refine gp2 ?_ ?_ ?_ | refine gp3 ?_ ?_ ?_ ?_ | refine bnd (ldZ0 (by assumption)) ?_ | refine bnd (ldZ1 (by assumption)) ?_ | refine bnd (ldZ2 (by assumption)) ?_ | rfl
  refine bnd st ?_
  with_reducible repeat' first | refine sbn ?_ | refine bnd (ldM3 (by assumption)) ?_ | refine bnd (decM3 _ _ _) ?_ | refine bnd (ldI0 (by assumption)) ?_ | refine bnd (ldI1 (by assumption)) ?_ | refine bnd (ldL2 (by assumption)) ?_ | refine jn ?_ | refine gp1 ?_ ?_ | refine gp2 ?_ ?_ ?_ | refine gp3 ?_ ?_ ?_ ?_ | refine bnd (ldZ0 (by assumption)) ?_ | refine bnd (ldZ1 (by assumption)) ?_ | refine bnd (ldZ2 (by assumption)) ?_ | rfl
theorem small_spec (k : Nat) (D : CallF) {h : AHeap} {r c : Int} {s : Slc} {xs : List Int} (R : Row encI h s xs) : ∃ h', law04_small k D (r, c, s) h = some (decide (xs.length ≤ 150), h') ∧ Keeps h h' := by
  obtain ⟨g1, hg1⟩ : ∃ g1, g1 = h.new (.cells [.int .i64 r, .int .i64 c, .slice s.a s.len s.cap] 51 true 0) := ⟨_, rfl⟩
  have b1 : g1.get h.next = some (.cells (mcell r c s) 51 true 0) := by rw [hg1]; simp [mcell]
  refine ⟨g1, ?_, hg1 ▸ Keeps.new h _⟩
  unfold law04_small
  dsimp only
  rw [← hg1]
  with_reducible repeat' first | refine sbn ?_ | refine bnd (ldM3 (by assumption)) ?_ | refine bnd (decM3 _ _ _) ?_ | refine bnd (ldI0 (by assumption)) ?_ | refine bnd (ldI1 (by assumption)) ?_ | refine bnd (ldL2 (by assumption)) ?_ | refine jn ?_ | refine gp1 ?_ ?_ | refine gp2 ?_ ?_ ?_ | refine gp3 ?_ ?_ ?_ ?_ | refine bnd (ldZ0 (by assumption)) ?_ | refine bnd (ldZ1 (by assumption)) ?_ | refine bnd (ldZ2 (by assumption)) ?_ | rfl
  rw [R.1]
  congr 2
  by_cases e : xs.length ≤ 150
  · rw [decide_eq_true e, decide_eq_true (by omega)]
  · rw [decide_eq_false e, decide_eq_false (by omega)]
theorem pair_put {g : AHeap} {n : Nat} {e : TypeId} {r1 c1 r2 c2 : Int} {s1 s2 : Slc} (_hn : n + 1 < g.next) : ∃ h27 h40,
    stL 3 ⟨n, 0, none⟩ (mcell r1 c1 s1) ((g.set n (.cells [.int .i64 0, .int .i64 0, .slice none 0 0] e true 0)).set (n + 1) (.cells [.int .i64 0, .int .i64 0, .slice none 0 0] e true 0)) = some h27 ∧ stL 3 ⟨n + 1, 0, none⟩ (mcell r2 c2 s2) h27 = some h40 ∧
    Chg (fun x => x = n ∨ x = n + 1) g (g.set n (.cells [.int .i64 0, .int .i64 0, .slice none 0 0] e true 0)) ∧ Chg (fun x => x = n ∨ x = n + 1) g ((g.set n (.cells [.int .i64 0, .int .i64 0, .slice none 0 0] e true 0)).set (n + 1) (.cells [.int .i64 0, .int .i64 0, .slice none 0 0] e true 0)) ∧
    Chg (fun x => x = n ∨ x = n + 1) g h27 ∧ Chg (fun x => x = n ∨ x = n + 1) g h40 ∧ h40.next = g.next ∧ h40.get n = some (.cells (mcell r1 c1 s1) e true 0) ∧ h40.get (n + 1) = some (.cells (mcell r2 c2 s2) e true 0) := by
  have ca : Chg (fun x => x = n ∨ x = n + 1) g (g.set n (.cells [.int .i64 0, .int .i64 0, .slice none 0 0] e true 0)) := Chg.set (.inr (.inl rfl))
  have cb := ca.trans (Chg.set (h := g.set n (.cells [.int .i64 0, .int .i64 0, .slice none 0 0] e true 0)) (b := n + 1) (B := .cells [.int .i64 0, .int .i64 0, .slice none 0 0] e true 0) (.inr (.inr rfl)))
  refine ⟨_, _, stM3 (cs := [.int .i64 0, .int .i64 0, .slice none 0 0]) (e := e) (by simp) rfl, stM3 (cs := [.int .i64 0, .int .i64 0, .slice none 0 0]) (e := e) (by simp) rfl, ca, cb, ?_, ?_, by simp, by simp, by simp⟩
  · exact cb.trans (Chg.set (.inr (.inl rfl)))
  · exact (cb.trans (Chg.set (.inr (.inl rfl)))).trans (Chg.set (.inr (.inr rfl)))
theorem duo {k0 : Nat} (hk : 200000 ≤ k0) {g : AHeap} {p : MRes} {sb fb : Nat} {X : Option (((Int × Int × Slc) × Int) × AHeap)} {Y : AHeap → Option (((Int × Int × Slc) × Int) × AHeap)} (hlen : p.1.2.2.length ≤ 100000) (_S : Spc g sb fb)
    (hA : ∃ h' res, X = some (res, h') ∧ Out g h' res p ∧ Spc h' sb fb ∧ Chg (· = fb) g h') (hC : ∀ g', Chg (· = fb) g g' → ∃ h' res, Y g' = some (res, h') ∧ Out g' h' res p ∧ Keeps g' h') :
    ∃ g1 g2 g3 g4 g5 r c s s' code, X = some (((r, c, s), code), g1) ∧ stL 3 ⟨g1.next, 0, none⟩ (mcell r c s) (g1.new (.cells [.int .i64 0, .int .i64 0, .slice none 0 0] 51 true 0)) = some g2 ∧ Y g2 = some (((r, c, s'), code), g3) ∧
      stL 3 ⟨g3.next, 0, none⟩ (mcell r c s') (g3.new (.cells [.int .i64 0, .int .i64 0, .slice none 0 0] 54 true 0)) = some g4 ∧ g4.get g1.next = some (.cells (mcell r c s) 51 true 0) ∧ g4.get g3.next = some (.cells (mcell r c s') 54 true 0) ∧
      law04_same k0 (DD k0) (r, c, s) (r, c, s') g4 = some (true, g5) ∧ Chg (· = fb) g g2 ∧ Chg (· = fb) g g4 ∧ Chg (· = fb) g g5 ∧ Spc g5 sb fb := by
  obtain ⟨g1, ⟨⟨r, c, s⟩, code⟩, e1, o1, S1, c1⟩ := hA
  obtain ⟨g2, st2, k2, n2, b2⟩ := mvar (h := g1) (e := 51) (r := r) (c := c) (s := s)
  have c2 := c1.trans (Chg.keeps k2)
  obtain ⟨g3, ⟨⟨r', c', s'⟩, code'⟩, e3, o3, k3⟩ := hC g2 c2
  obtain ⟨g4, st4, k4, n4, b4⟩ := mvar (h := g3) (e := 54) (r := r') (c := c') (s := s')
  have er : r = r' := o1.r.trans o3.r.symm
  have ec : c = c' := o1.c.trans o3.c.symm
  have ecode : code = code' := o1.code.trans o3.code.symm
  subst er ec ecode
  have k24 := k3.trans k4
  have c4 := c2.trans (Chg.keeps k24)
  obtain ⟨g5, e5, k5⟩ := same_spec (k0 := k0) (DD k0) (r := r) (c := c) (o1.inm.row.keeps (k2.trans k24)) (o3.inm.row.keeps k4) (by omega) (by omega)
  exact ⟨g1, g2, g3, g4, g5, r, c, s, s', code, e1, st2, e3, st4, by rw [k24.oth _ (by omega) (fun f => f)]; exact b2, b4, e5, c2, c4, c4.trans (Chg.keeps k5), ((S1.keeps k2).keeps k24).keeps k5⟩
structure LI (n m sb fb : Nat) (r1 c1 r2 c2 : Int) (s1 s2 rs sa sq so : Slc) (xs ys rows : List Int) (g : AHeap) : Prop where
  rp : Row encI g s1 xs
  rq : Row encI g s2 ys
  rr : Row encI g rs rows
  ia : InM g sa xs
  iq : InM g sq ys
  io : Row encI g so rows
  d1 : g.get n = some (.cells (mcell r1 c1 s1) 54 true 0)
  d2 : g.get (n + 1) = some (.cells (mcell r2 c2 s2) 54 true 0)
  d3 : g.get m = some (.cells (mcell r1 c1 sa) 51 true 0)
  d4 : g.get (m + 1) = some (.cells (mcell r2 c2 sq) 51 true 0)
  ln : n + 1 < g.next
  lm : m + 1 < g.next
structure LN (n m fb : Nat) (s1 s2 rs sa sq so : Slc) : Prop where
  n0 : n ≠ fb
  n1 : n + 1 ≠ fb
  m0 : m ≠ fb
  m1 : m + 1 ≠ fb
  a1 : ∀ a, s1.a = some a → ¬ a.block = fb
  a2 : ∀ a, s2.a = some a → ¬ a.block = fb
  a3 : ∀ a, rs.a = some a → ¬ a.block = fb
  a4 : ∀ a, sa.a = some a → ¬ a.block = fb
  a5 : ∀ a, sq.a = some a → ¬ a.block = fb
  a6 : ∀ a, so.a = some a → ¬ a.block = fb
theorem LI.chg {n m sb fb : Nat} {r1 c1 r2 c2 : Int} {s1 s2 rs sa sq so : Slc} {xs ys rows : List Int} {g g' : AHeap} (N : LN n m fb s1 s2 rs sa sq so) (L : LI n m sb fb r1 c1 r2 c2 s1 s2 rs sa sq so xs ys rows g) (c : Chg (· = fb) g g') :
    LI n m sb fb r1 c1 r2 c2 s1 s2 rs sa sq so xs ys rows g' := by
  have ln := L.ln
  have lm := L.lm
  have nx := c.nx
  exact ⟨L.rp.chg c N.a1, L.rq.chg c N.a2, L.rr.chg c N.a3, L.ia.chg c N.a4, L.iq.chg c N.a5, L.io.chg c N.a6, by rw [c.oth _ (by omega) N.n0]; exact L.d1, by rw [c.oth _ (by omega) N.n1]; exact L.d2,
    by rw [c.oth _ (by omega) N.m0]; exact L.d3, by rw [c.oth _ (by omega) N.m1]; exact L.d4, by omega, by omega⟩
set_option maxHeartbeats 1000000 in
theorem reckons_true {k0 : Nat} (hk : 200000 ≤ k0) {h : AHeap} {r1 c1 r2 c2 : Int} {s1 s2 rs : Slc} {xs ys rows : List Int} (R1 : Row encI h s1 xs) (R2 : Row encI h s2 ys) (R3 : Row encI h rs rows) (hr47 : 8 * rows.length ≤ 140737488355328)
    (hkr : rows.length < k0) (l1 : ∀ a, s1.a = some a → a.block < h.next) (l2 : ∀ a, s2.a = some a → a.block < h.next) (l3 : ∀ a, rs.a = some a → a.block < h.next) :
    ∃ h', law04_MatrixReckons k0 (DD k0) (r1, c1, s1) (r2, c2, s2) rs h = some (true, h') := by
  obtain ⟨g1, hg1⟩ : ∃ g1, g1 = h.new (.cells [.int .i64 r1, .int .i64 c1, .slice s1.a s1.len s1.cap] 51 true 0) := ⟨_, rfl⟩
  have k1 : Keeps h g1 := hg1 ▸ Keeps.new h _
  have n1 : g1.next = h.next + 1 := by rw [hg1]; rfl
  obtain ⟨g2, hg2⟩ : ∃ g2, g2 = g1.new (.cells [.int .i64 r2, .int .i64 c2, .slice s2.a s2.len s2.cap] 51 true 0) := ⟨_, rfl⟩
  have k2 : Keeps g1 g2 := hg2 ▸ Keeps.new g1 _
  have n2 : g2.next = g1.next + 1 := by rw [hg2]; rfl
  have p2 : g2.get h.next = some (.cells (mcell r1 c1 s1) 51 true 0) := by rw [k2.oth _ (by omega) (fun f => f), hg1]; simp [mcell]
  have q2 : g2.get g1.next = some (.cells (mcell r2 c2 s2) 51 true 0) := by rw [hg2]; simp [mcell]
  obtain ⟨g3, e3, k3, S3, n3⟩ := mnew_spec k0 (DD k0) g2
  obtain ⟨g4, e4, k4⟩ := works4_spec (k0 := k0) (by omega) g3
  have nx4 := k4.nx
  have k24 := k3.trans k4
  have p4 : g4.get h.next = some (.cells (mcell r1 c1 s1) 51 true 0) := by rw [k24.oth _ (by omega) (fun f => f)]; exact p2
  have q4 : g4.get g1.next = some (.cells (mcell r2 c2 s2) 51 true 0) := by rw [k24.oth _ (by omega) (fun f => f)]; exact q2
  have k04 := (k1.trans k2).trans k24
  obtain ⟨g5, e5, k5⟩ := small_spec k0 (DD k0) (r := r1) (c := c1) (R1.keeps k04)
  have k05 := k04.trans k5
  have nx5 := k5.nx
  have q5 : g5.get g1.next = some (.cells (mcell r2 c2 s2) 51 true 0) := by rw [k5.oth _ (by omega) (fun f => f)]; exact q4
  obtain ⟨g6, e6, k6⟩ := small_spec k0 (DD k0) (r := r2) (c := c2) (R2.keeps k05)
  have k06 := k05.trans k6
  have nx6 := k6.nx
  have k46 := k5.trans k6
  have S6 := (S3.keeps k4).keeps k46
  have p6 : g6.get h.next = some (.cells (mcell r1 c1 s1) 51 true 0) := by rw [k46.oth _ (by omega) (fun f => f)]; exact p4
  have q6 : g6.get g1.next = some (.cells (mcell r2 c2 s2) 51 true 0) := by rw [k6.oth _ (by omega) (fun f => f)]; exact q5
  unfold law04_MatrixReckons
  dsimp only
  rw [← hg1, ← hg2]
  by_cases b1 : xs.length ≤ 150
  · by_cases b2 : ys.length ≤ 150
    · by_cases b3 : 20 < rows.length ∧ rows.length ≤ 255
      · refine ⟨g6, ?_⟩
        refine bnd e3 ?_
        with_reducible repeat' first | refine sbn ?_ | refine bnd (ldM3 (by assumption)) ?_ | refine bnd (decM3 _ _ _) ?_ | refine bnd (ldI0 (by assumption)) ?_ | refine bnd (ldI1 (by assumption)) ?_ | refine bnd (ldL2 (by assumption)) ?_ | refine jn ?_ | refine gp1 ?_ ?_ | refine gp2 ?_ ?_ ?_ | refine gp3 ?_ ?_ ?_ ?_ | refine bnd (ldZ0 (by assumption)) ?_ | refine bnd (ldZ1 (by assumption)) ?_ | refine bnd (ldZ2 (by assumption)) ?_ | rfl
        refine ifn (by simp) (bnd e4 ?_)
        with_reducible repeat' first | refine sbn ?_ | refine bnd (ldM3 (by assumption)) ?_ | refine bnd (decM3 _ _ _) ?_ | refine bnd (ldI0 (by assumption)) ?_ | refine bnd (ldI1 (by assumption)) ?_ | refine bnd (ldL2 (by assumption)) ?_ | refine jn ?_ | refine gp1 ?_ ?_ | refine gp2 ?_ ?_ ?_ | refine gp3 ?_ ?_ ?_ ?_ | refine bnd (ldZ0 (by assumption)) ?_ | refine bnd (ldZ1 (by assumption)) ?_ | refine bnd (ldZ2 (by assumption)) ?_ | rfl
        refine ifn (by simp) ?_
        with_reducible repeat' first | refine sbn ?_ | refine bnd (ldM3 (by assumption)) ?_ | refine bnd (decM3 _ _ _) ?_ | refine bnd (ldI0 (by assumption)) ?_ | refine bnd (ldI1 (by assumption)) ?_ | refine bnd (ldL2 (by assumption)) ?_ | refine jn ?_ | refine gp1 ?_ ?_ | refine gp2 ?_ ?_ ?_ | refine gp3 ?_ ?_ ?_ ?_ | refine bnd (ldZ0 (by assumption)) ?_ | refine bnd (ldZ1 (by assumption)) ?_ | refine bnd (ldZ2 (by assumption)) ?_ | rfl
        refine bnd e5 (ifn (by simp [b1]) ?_)
        with_reducible repeat' first | refine sbn ?_ | refine bnd (ldM3 (by assumption)) ?_ | refine bnd (decM3 _ _ _) ?_ | refine bnd (ldI0 (by assumption)) ?_ | refine bnd (ldI1 (by assumption)) ?_ | refine bnd (ldL2 (by assumption)) ?_ | refine jn ?_ | refine gp1 ?_ ?_ | refine gp2 ?_ ?_ ?_ | refine gp3 ?_ ?_ ?_ ?_ | refine bnd (ldZ0 (by assumption)) ?_ | refine bnd (ldZ1 (by assumption)) ?_ | refine bnd (ldZ2 (by assumption)) ?_ | rfl
        refine bnd e6 (ifn (by simp [b2]) ?_)
        rw [R3.1]
        refine ifp (by rw [decide_eq_true_eq]; omega) ?_
        exact ifp (by rw [decide_eq_true_eq]; omega) rfl
      · -- all of it
        obtain ⟨n, hn⟩ : ∃ n, n = g6.next := ⟨_, rfl⟩
        obtain ⟨g7, hg7⟩ : ∃ g7, g7 = g6.resv 2 := ⟨_, rfl⟩
        have n7 : g7.next = n + 2 := by rw [hg7, hn]; rfl
        have k7 : Keeps g6 g7 := hg7 ▸ ⟨Nat.le_add_right _ _, fun _ _ _ => rfl⟩
        have p7 : g7.get h.next = some (.cells (mcell r1 c1 s1) 51 true 0) := by rw [k7.oth _ (by omega) (fun f => f)]; exact p6
        have q7 : g7.get g1.next = some (.cells (mcell r2 c2 s2) 51 true 0) := by rw [k7.oth _ (by omega) (fun f => f)]; exact q6
        obtain ⟨g8, g9, st8, st9, ca, cb, c8, c9, n9, bn, bn1⟩ := pair_put (g := g7) (n := n) (e := 54) (r1 := r1) (c1 := c1) (s1 := s1) (r2 := r2) (c2 := c2) (s2 := s2) (by omega)
        obtain ⟨ga, hga⟩ : ∃ ga, ga = g7.set n (.cells [.int .i64 0, .int .i64 0, .slice none 0 0] 54 true 0) := ⟨_, rfl⟩
        rw [← hga] at st8 ca cb
        obtain ⟨gb, hgb⟩ : ∃ gb, gb = ga.set (n + 1) (.cells [.int .i64 0, .int .i64 0, .slice none 0 0] 54 true 0) := ⟨_, rfl⟩
        rw [← hgb] at st8 cb
        have qa : ga.get g1.next = some (.cells (mcell r2 c2 s2) 51 true 0) := by rw [ca.oth _ (by omega) (by omega)]; exact q7
        have qb : gb.get g1.next = some (.cells (mcell r2 c2 s2) 51 true 0) := by rw [cb.oth _ (by omega) (by omega)]; exact q7
        have q8 : g8.get g1.next = some (.cells (mcell r2 c2 s2) 51 true 0) := by rw [c8.oth _ (by omega) (by omega)]; exact q7
        have k09 : Keeps h g9 := (k06.trans k7).beh c9 fun x hx e => by omega
        have k69 : Keeps g6 g9 := k7.beh c9 fun x hx e => by omega
        obtain ⟨m, hm⟩ : ∃ m, m = g9.next := ⟨_, rfl⟩
        obtain ⟨g10, hg10⟩ : ∃ g10, g10 = g9.resv 2 := ⟨_, rfl⟩
        have n10 : g10.next = m + 2 := by rw [hg10, hm]; rfl
        have k10 : Keeps g9 g10 := hg10 ▸ ⟨Nat.le_add_right _ _, fun _ _ _ => rfl⟩
        have k010 := k09.trans k10
        have bn10 : g10.get n = some (.cells (mcell r1 c1 s1) 54 true 0) := by rw [k10.oth _ (by omega) (fun f => f)]; exact bn
        have bm10 : g10.get (n + 1) = some (.cells (mcell r2 c2 s2) 54 true 0) := by rw [k10.oth _ (by omega) (fun f => f)]; exact bn1
        obtain ⟨g11, sa, e11, k11, I11, l11⟩ := of_spec k0 (DD k0) (r := r1) (c := c1) (R1.keeps k010) (by omega)
        have nx11 := k11.nx
        have bm11 : g11.get (n + 1) = some (.cells (mcell r2 c2 s2) 54 true 0) := by rw [k11.oth _ (by omega) (fun f => f)]; exact bm10
        obtain ⟨g12, sq, e12, k12, I12, l12⟩ := of_spec k0 (DD k0) (r := r2) (c := c2) ((R2.keeps k010).keeps k11) (by omega)
        have nx12 := k12.nx
        have k1012 := k11.trans k12
        have k012 := k010.trans k1012
        obtain ⟨g13, g14, st13, st14, _, _, _, c14, n14, bm, bm1⟩ := pair_put (g := g12) (n := m) (e := 51) (r1 := r1) (c1 := c1) (s1 := sa) (r2 := r2) (c2 := c2) (s2 := sq) (by omega)
        have k014 : Keeps h g14 := k012.beh c14 fun x hx e => by omega
        have k914 : Keeps g9 g14 := (k10.trans k1012).beh c14 fun x hx e => by omega
        obtain ⟨g15, so, rd15, ap15, k15, k15', I15, l15⟩ := own_spec (R3.keeps k014) hr47
        have nx15 := k15.nx
        have k915 := k914.trans k15
        have S15 := (S6.keeps k69).keeps k915
        have NN : LN n m g2.next s1 s2 rs sa sq so := ⟨by omega, by omega, by omega, by omega, fun a ha => by have := l1 a ha; omega, fun a ha => by have := l2 a ha; omega, fun a ha => by have := l3 a ha; omega,
          fun a ha => by have := l11 a ha; omega, fun a ha => by have := l12 a ha; omega, fun a ha => by have := l15 a ha; omega⟩
        have L15 : LI n m (g2.next + 1) g2.next r1 c1 r2 c2 s1 s2 rs sa sq so xs ys rows g15 := ⟨R1.keeps (k014.trans k15), R2.keeps (k014.trans k15), R3.keeps (k014.trans k15),
          ((I11.keeps k12).chg c14 fun a ha => by have := l11 a ha; omega).keeps k15, (I12.chg c14 fun a ha => by have := l12 a ha; omega).keeps k15, I15.row,
          by rw [k915.oth _ (by omega) (fun f => f)]; exact bn, by rw [k915.oth _ (by omega) (fun f => f)]; exact bn1, by rw [k15.oth _ (by omega) (fun f => f)]; exact bm, by rw [k15.oth _ (by omega) (fun f => f)]; exact bm1, by omega, by omega⟩
        obtain ⟨a1, a2, a3, a4, a5, mr, mc, ms, ms', mcode, mX, mst, mY, mst', mb, mb', mE, mc2, mc4, mc5, mS⟩ := duo hk (mulP_len r1 c1 xs r2 c2 ys) S15
          (mmul_spec hk S15 (r := r1) (c := c1) (r2 := r2) (c2 := c2) L15.ia L15.iq (by omega) (by omega) (fun a ha => ⟨by have := l11 a ha; omega, NN.a4 a ha⟩) (fun a ha => ⟨by have := l12 a ha; omega, NN.a5 a ha⟩))
          (fun g' c' => by have L := L15.chg NN c'; exact rmmul_spec hk (DD k0) (r := r1) (c := c1) (r2 := r2) (c2 := c2) L.rp L.rq (by omega) (by omega))
        have La2 := L15.chg NN mc2
        have La4 := L15.chg NN mc4
        have La5 := L15.chg NN mc5
        obtain ⟨d1, d2, d3, d4, d5, ir, ic, is, is', icode, iX, ist, iY, ist', ib, ib', iE, ic2, ic4, ic5, iS⟩ := duo hk (invP_len r1 c1 xs) mS
          (inverse_spec hk mS (r := r1) (c := c1) La5.ia (by omega) (fun a ha => ⟨by have := l11 a ha; omega, NN.a4 a ha⟩))
          (fun g' c' => by have L := La5.chg NN c'; exact rinverse_spec hk (DD k0) (r := r1) (c := c1) L.rp (by omega))
        have Ld2 := La5.chg NN ic2
        have Ld4 := La5.chg NN ic4
        have Ld5 := La5.chg NN ic5
        obtain ⟨f1, eR, SR1, cR1⟩ := rank_spec hk iS (r := r1) (c := c1) Ld5.ia (by omega)
        have Lf1 := Ld5.chg NN cR1
        obtain ⟨f2, eR2, kR2⟩ := rrank_spec hk (DD k0) (r := r1) (c := c1) Lf1.rp (by omega)
        have Lf2 := Lf1.chg NN (Chg.keeps kR2)
        obtain ⟨f3, eC, kC⟩ := check_spec (k0 := k0) (DD k0) (r := r1) (c := c1) Lf2.ia.row (by omega) (by omega)
        have Lf3 := Lf2.chg NN (Chg.keeps kC)
        obtain ⟨f4, eC2, kC2⟩ := rcheck_spec (k0 := k0) (DD k0) (r := r1) (c := c1) Lf3.rp (by omega) (by omega)
        have Lf4 := Lf3.chg NN (Chg.keeps kC2)
        have Sf4 := ((SR1.keeps kR2).keeps kC).keeps kC2
        obtain ⟨t1, t2, t3, t4, t5, tr, tc, ts, ts', tcode, tX, tst, tY, tst', tb, tb', tE, tc2, tc4, tc5, tS⟩ := duo hk (turnP_len r1 c1 xs) Sf4
          (by obtain ⟨h', res, e, o, k⟩ := mturn_spec hk (DD k0) (r := r1) (c := c1) Lf4.ia (by omega); exact ⟨h', res, e, o, Sf4.keeps k, Chg.keeps k⟩)
          (fun g' c' => by have L := Lf4.chg NN c'; exact rturn_spec hk (DD k0) (r := r1) (c := c1) L.rp (by omega))
        have Lt2 := Lf4.chg NN tc2
        have Lt4 := Lf4.chg NN tc4
        have Lt5 := Lf4.chg NN tc5
        obtain ⟨u1, u2, u3, u4, u5, ur, uc, us, us', ucode, uX, ust, uY, ust', ub, ub', uE, uc2, uc4, uc5, uS⟩ := duo hk (pickP_len r1 c1 xs rows) tS
          (by obtain ⟨h', res, e, o, k⟩ := mpick_spec hk (DD k0) (r := r1) (c := c1) Lt5.ia (by omega) Lt5.io; exact ⟨h', res, e, o, tS.keeps k, Chg.keeps k⟩)
          (fun g' c' => by have L := Lt5.chg NN c'; exact rpick_spec hk (DD k0) (r := r1) (c := c1) L.rp (by omega) L.rr)
        have Lu2 := Lt5.chg NN uc2
        have Lu5 := Lt5.chg NN uc5
        obtain ⟨v1, eV1, kV1⟩ := same_spec (k0 := k0) (DD k0) (r := r1) (c := c1) Lu5.ia.row Lu5.rp (by omega) (by omega)
        have Lv1 := Lu5.chg NN (Chg.keeps kV1)
        obtain ⟨v2, eV2, kV2⟩ := same_spec (k0 := k0) (DD k0) (r := r2) (c := c2) Lv1.iq.row Lv1.rq (by omega) (by omega)
        have Lv2 := Lv1.chg NN (Chg.keeps kV2)
        have eS := sameI_spec (k := k0) (DD k0) Lv2.io Lv2.rr hkr (by omega)
        have x15_1 := L15.d1
        have x15_3 := L15.d3
        have x15_4 := L15.d4
        have xa2_1 := La2.d1
        have xa2_2 := La2.d2
        have xa5_1 := La5.d1
        have xa5_3 := La5.d3
        have xd2_1 := Ld2.d1
        have xd5_3 := Ld5.d3
        have xf1_1 := Lf1.d1
        have xf2_1 := Lf2.d1
        have xf2_3 := Lf2.d3
        have xf3_1 := Lf3.d1
        have xf4_3 := Lf4.d3
        have xt2_1 := Lt2.d1
        have xt5_3 := Lt5.d3
        have xu2_1 := Lu2.d1
        have xu5_1 := Lu5.d1
        have xu5_3 := Lu5.d3
        have xv1_2 := Lv1.d2
        have xv1_4 := Lv1.d4
        refine ⟨v2, ?_⟩
        refine bnd e3 ?_
        with_reducible repeat' first | refine sbn ?_ | refine bnd (ldM3 (by assumption)) ?_ | refine bnd (decM3 _ _ _) ?_ | refine bnd (ldI0 (by assumption)) ?_ | refine bnd (ldI1 (by assumption)) ?_ | refine bnd (ldL2 (by assumption)) ?_ | refine jn ?_ | refine gp1 ?_ ?_ | refine gp2 ?_ ?_ ?_ | refine gp3 ?_ ?_ ?_ ?_ | refine bnd (ldZ0 (by assumption)) ?_ | refine bnd (ldZ1 (by assumption)) ?_ | refine bnd (ldZ2 (by assumption)) ?_ | rfl
        refine ifn (by simp) (bnd e4 ?_)
        with_reducible repeat' first | refine sbn ?_ | refine bnd (ldM3 (by assumption)) ?_ | refine bnd (decM3 _ _ _) ?_ | refine bnd (ldI0 (by assumption)) ?_ | refine bnd (ldI1 (by assumption)) ?_ | refine bnd (ldL2 (by assumption)) ?_ | refine jn ?_ | refine gp1 ?_ ?_ | refine gp2 ?_ ?_ ?_ | refine gp3 ?_ ?_ ?_ ?_ | refine bnd (ldZ0 (by assumption)) ?_ | refine bnd (ldZ1 (by assumption)) ?_ | refine bnd (ldZ2 (by assumption)) ?_ | rfl
        refine ifn (by simp) ?_
        with_reducible repeat' first | refine sbn ?_ | refine bnd (ldM3 (by assumption)) ?_ | refine bnd (decM3 _ _ _) ?_ | refine bnd (ldI0 (by assumption)) ?_ | refine bnd (ldI1 (by assumption)) ?_ | refine bnd (ldL2 (by assumption)) ?_ | refine jn ?_ | refine gp1 ?_ ?_ | refine gp2 ?_ ?_ ?_ | refine gp3 ?_ ?_ ?_ ?_ | refine bnd (ldZ0 (by assumption)) ?_ | refine bnd (ldZ1 (by assumption)) ?_ | refine bnd (ldZ2 (by assumption)) ?_ | rfl
        refine bnd e5 (ifn (by simp [b1]) ?_)
        with_reducible repeat' first | refine sbn ?_ | refine bnd (ldM3 (by assumption)) ?_ | refine bnd (decM3 _ _ _) ?_ | refine bnd (ldI0 (by assumption)) ?_ | refine bnd (ldI1 (by assumption)) ?_ | refine bnd (ldL2 (by assumption)) ?_ | refine jn ?_ | refine gp1 ?_ ?_ | refine gp2 ?_ ?_ ?_ | refine gp3 ?_ ?_ ?_ ?_ | refine bnd (ldZ0 (by assumption)) ?_ | refine bnd (ldZ1 (by assumption)) ?_ | refine bnd (ldZ2 (by assumption)) ?_ | rfl
        refine bnd e6 (ifn (by simp [b2]) ?_)
        rw [R3.1]
        have e20 : rows.length > 20 → decide ((rows.length : Int) ≤ 255) = false := fun c => by rw [decide_eq_false_iff_not]; omega
        by_cases c20 : rows.length > 20
        refine ifp (by rw [decide_eq_true_eq]; omega) ?_
        rw [e20 c20]
        rotate_left
        refine ifn (by rw [decide_eq_true_eq]; omega) ?_
        all_goals
          refine ifn (by simp) ?_
          dsimp only
          rw [← hg7, ← hn, show n + 0 = n from rfl, ← hga, ← hgb]
          with_reducible repeat' first | refine sbn ?_ | refine bnd (ldM3 (by assumption)) ?_ | refine bnd (decM3 _ _ _) ?_ | refine bnd (ldI0 (by assumption)) ?_ | refine bnd (ldI1 (by assumption)) ?_ | refine bnd (ldL2 (by assumption)) ?_ | refine jn ?_ | refine gp1 ?_ ?_ | refine gp2 ?_ ?_ ?_ | refine gp3 ?_ ?_ ?_ ?_ | refine bnd (ldZ0 (by assumption)) ?_ | refine bnd (ldZ1 (by assumption)) ?_ | refine bnd (ldZ2 (by assumption)) ?_ | rfl
          refine bnd st8 ?_
          with_reducible repeat' first | refine sbn ?_ | refine bnd (ldM3 (by assumption)) ?_ | refine bnd (decM3 _ _ _) ?_ | refine bnd (ldI0 (by assumption)) ?_ | refine bnd (ldI1 (by assumption)) ?_ | refine bnd (ldL2 (by assumption)) ?_ | refine jn ?_ | refine gp1 ?_ ?_ | refine gp2 ?_ ?_ ?_ | refine gp3 ?_ ?_ ?_ ?_ | refine bnd (ldZ0 (by assumption)) ?_ | refine bnd (ldZ1 (by assumption)) ?_ | refine bnd (ldZ2 (by assumption)) ?_ | rfl
          refine bnd st9 ?_
          rw [← hg10, ← hm, show m + 0 = m from rfl]
          with_reducible repeat' first | refine sbn ?_ | refine bnd (ldM3 (by assumption)) ?_ | refine bnd (decM3 _ _ _) ?_ | refine bnd (ldI0 (by assumption)) ?_ | refine bnd (ldI1 (by assumption)) ?_ | refine bnd (ldL2 (by assumption)) ?_ | refine jn ?_ | refine gp1 ?_ ?_ | refine gp2 ?_ ?_ ?_ | refine gp3 ?_ ?_ ?_ ?_ | refine bnd (ldZ0 (by assumption)) ?_ | refine bnd (ldZ1 (by assumption)) ?_ | refine bnd (ldZ2 (by assumption)) ?_ | rfl
          refine bnd e11 ?_
          with_reducible repeat' first | refine sbn ?_ | refine bnd (ldM3 (by assumption)) ?_ | refine bnd (decM3 _ _ _) ?_ | refine bnd (ldI0 (by assumption)) ?_ | refine bnd (ldI1 (by assumption)) ?_ | refine bnd (ldL2 (by assumption)) ?_ | refine jn ?_ | refine gp1 ?_ ?_ | refine gp2 ?_ ?_ ?_ | refine gp3 ?_ ?_ ?_ ?_ | refine bnd (ldZ0 (by assumption)) ?_ | refine bnd (ldZ1 (by assumption)) ?_ | refine bnd (ldZ2 (by assumption)) ?_ | rfl
          refine bnd e12 ?_
          refine bnd st13 (bnd st14 ?_)
          refine bnd rd15 (bnd ap15 ?_)
          with_reducible repeat' first | refine sbn ?_ | refine bnd (ldM3 (by assumption)) ?_ | refine bnd (decM3 _ _ _) ?_ | refine bnd (ldI0 (by assumption)) ?_ | refine bnd (ldI1 (by assumption)) ?_ | refine bnd (ldL2 (by assumption)) ?_ | refine jn ?_ | refine gp1 ?_ ?_ | refine gp2 ?_ ?_ ?_ | refine gp3 ?_ ?_ ?_ ?_ | refine bnd (ldZ0 (by assumption)) ?_ | refine bnd (ldZ1 (by assumption)) ?_ | refine bnd (ldZ2 (by assumption)) ?_ | rfl
          refine bnd mX (bnd mst ?_)
          with_reducible repeat' first | refine sbn ?_ | refine bnd (ldM3 (by assumption)) ?_ | refine bnd (decM3 _ _ _) ?_ | refine bnd (ldI0 (by assumption)) ?_ | refine bnd (ldI1 (by assumption)) ?_ | refine bnd (ldL2 (by assumption)) ?_ | refine jn ?_ | refine gp1 ?_ ?_ | refine gp2 ?_ ?_ ?_ | refine gp3 ?_ ?_ ?_ ?_ | refine bnd (ldZ0 (by assumption)) ?_ | refine bnd (ldZ1 (by assumption)) ?_ | refine bnd (ldZ2 (by assumption)) ?_ | rfl
          refine bnd mY (bnd mst' ?_)
          with_reducible repeat' first | refine sbn ?_ | refine bnd (ldM3 (by assumption)) ?_ | refine bnd (decM3 _ _ _) ?_ | refine bnd (ldI0 (by assumption)) ?_ | refine bnd (ldI1 (by assumption)) ?_ | refine bnd (ldL2 (by assumption)) ?_ | refine jn ?_ | refine gp1 ?_ ?_ | refine gp2 ?_ ?_ ?_ | refine gp3 ?_ ?_ ?_ ?_ | refine bnd (ldZ0 (by assumption)) ?_ | refine bnd (ldZ1 (by assumption)) ?_ | refine bnd (ldZ2 (by assumption)) ?_ | rfl
          refine bnd mE (ifn (by simp) (ifn (by simp) ?_))
          with_reducible repeat' first | refine sbn ?_ | refine bnd (ldM3 (by assumption)) ?_ | refine bnd (decM3 _ _ _) ?_ | refine bnd (ldI0 (by assumption)) ?_ | refine bnd (ldI1 (by assumption)) ?_ | refine bnd (ldL2 (by assumption)) ?_ | refine jn ?_ | refine gp1 ?_ ?_ | refine gp2 ?_ ?_ ?_ | refine gp3 ?_ ?_ ?_ ?_ | refine bnd (ldZ0 (by assumption)) ?_ | refine bnd (ldZ1 (by assumption)) ?_ | refine bnd (ldZ2 (by assumption)) ?_ | rfl
          refine bnd iX (bnd ist ?_)
          with_reducible repeat' first | refine sbn ?_ | refine bnd (ldM3 (by assumption)) ?_ | refine bnd (decM3 _ _ _) ?_ | refine bnd (ldI0 (by assumption)) ?_ | refine bnd (ldI1 (by assumption)) ?_ | refine bnd (ldL2 (by assumption)) ?_ | refine jn ?_ | refine gp1 ?_ ?_ | refine gp2 ?_ ?_ ?_ | refine gp3 ?_ ?_ ?_ ?_ | refine bnd (ldZ0 (by assumption)) ?_ | refine bnd (ldZ1 (by assumption)) ?_ | refine bnd (ldZ2 (by assumption)) ?_ | rfl
          refine bnd iY (bnd ist' ?_)
          with_reducible repeat' first | refine sbn ?_ | refine bnd (ldM3 (by assumption)) ?_ | refine bnd (decM3 _ _ _) ?_ | refine bnd (ldI0 (by assumption)) ?_ | refine bnd (ldI1 (by assumption)) ?_ | refine bnd (ldL2 (by assumption)) ?_ | refine jn ?_ | refine gp1 ?_ ?_ | refine gp2 ?_ ?_ ?_ | refine gp3 ?_ ?_ ?_ ?_ | refine bnd (ldZ0 (by assumption)) ?_ | refine bnd (ldZ1 (by assumption)) ?_ | refine bnd (ldZ2 (by assumption)) ?_ | rfl
          refine bnd iE (ifn (by simp) (ifn (by simp) ?_))
          with_reducible repeat' first | refine sbn ?_ | refine bnd (ldM3 (by assumption)) ?_ | refine bnd (decM3 _ _ _) ?_ | refine bnd (ldI0 (by assumption)) ?_ | refine bnd (ldI1 (by assumption)) ?_ | refine bnd (ldL2 (by assumption)) ?_ | refine jn ?_ | refine gp1 ?_ ?_ | refine gp2 ?_ ?_ ?_ | refine gp3 ?_ ?_ ?_ ?_ | refine bnd (ldZ0 (by assumption)) ?_ | refine bnd (ldZ1 (by assumption)) ?_ | refine bnd (ldZ2 (by assumption)) ?_ | rfl
          refine bnd eR ?_
          with_reducible repeat' first | refine sbn ?_ | refine bnd (ldM3 (by assumption)) ?_ | refine bnd (decM3 _ _ _) ?_ | refine bnd (ldI0 (by assumption)) ?_ | refine bnd (ldI1 (by assumption)) ?_ | refine bnd (ldL2 (by assumption)) ?_ | refine jn ?_ | refine gp1 ?_ ?_ | refine gp2 ?_ ?_ ?_ | refine gp3 ?_ ?_ ?_ ?_ | refine bnd (ldZ0 (by assumption)) ?_ | refine bnd (ldZ1 (by assumption)) ?_ | refine bnd (ldZ2 (by assumption)) ?_ | rfl
          refine bnd eR2 ?_
          with_reducible repeat' first | refine sbn ?_ | refine bnd (ldM3 (by assumption)) ?_ | refine bnd (decM3 _ _ _) ?_ | refine bnd (ldI0 (by assumption)) ?_ | refine bnd (ldI1 (by assumption)) ?_ | refine bnd (ldL2 (by assumption)) ?_ | refine jn ?_ | refine gp1 ?_ ?_ | refine gp2 ?_ ?_ ?_ | refine gp3 ?_ ?_ ?_ ?_ | refine bnd (ldZ0 (by assumption)) ?_ | refine bnd (ldZ1 (by assumption)) ?_ | refine bnd (ldZ2 (by assumption)) ?_ | rfl
          refine ifn (by simp) (ifn (by simp) ?_)
          with_reducible repeat' first | refine sbn ?_ | refine bnd (ldM3 (by assumption)) ?_ | refine bnd (decM3 _ _ _) ?_ | refine bnd (ldI0 (by assumption)) ?_ | refine bnd (ldI1 (by assumption)) ?_ | refine bnd (ldL2 (by assumption)) ?_ | refine jn ?_ | refine gp1 ?_ ?_ | refine gp2 ?_ ?_ ?_ | refine gp3 ?_ ?_ ?_ ?_ | refine bnd (ldZ0 (by assumption)) ?_ | refine bnd (ldZ1 (by assumption)) ?_ | refine bnd (ldZ2 (by assumption)) ?_ | rfl
          refine bnd eC ?_
          with_reducible repeat' first | refine sbn ?_ | refine bnd (ldM3 (by assumption)) ?_ | refine bnd (decM3 _ _ _) ?_ | refine bnd (ldI0 (by assumption)) ?_ | refine bnd (ldI1 (by assumption)) ?_ | refine bnd (ldL2 (by assumption)) ?_ | refine jn ?_ | refine gp1 ?_ ?_ | refine gp2 ?_ ?_ ?_ | refine gp3 ?_ ?_ ?_ ?_ | refine bnd (ldZ0 (by assumption)) ?_ | refine bnd (ldZ1 (by assumption)) ?_ | refine bnd (ldZ2 (by assumption)) ?_ | rfl
          refine bnd eC2 (ifn (by simp) ?_)
          with_reducible repeat' first | refine sbn ?_ | refine bnd (ldM3 (by assumption)) ?_ | refine bnd (decM3 _ _ _) ?_ | refine bnd (ldI0 (by assumption)) ?_ | refine bnd (ldI1 (by assumption)) ?_ | refine bnd (ldL2 (by assumption)) ?_ | refine jn ?_ | refine gp1 ?_ ?_ | refine gp2 ?_ ?_ ?_ | refine gp3 ?_ ?_ ?_ ?_ | refine bnd (ldZ0 (by assumption)) ?_ | refine bnd (ldZ1 (by assumption)) ?_ | refine bnd (ldZ2 (by assumption)) ?_ | rfl
          refine bnd tX (bnd tst ?_)
          with_reducible repeat' first | refine sbn ?_ | refine bnd (ldM3 (by assumption)) ?_ | refine bnd (decM3 _ _ _) ?_ | refine bnd (ldI0 (by assumption)) ?_ | refine bnd (ldI1 (by assumption)) ?_ | refine bnd (ldL2 (by assumption)) ?_ | refine jn ?_ | refine gp1 ?_ ?_ | refine gp2 ?_ ?_ ?_ | refine gp3 ?_ ?_ ?_ ?_ | refine bnd (ldZ0 (by assumption)) ?_ | refine bnd (ldZ1 (by assumption)) ?_ | refine bnd (ldZ2 (by assumption)) ?_ | rfl
          refine bnd tY (bnd tst' ?_)
          with_reducible repeat' first | refine sbn ?_ | refine bnd (ldM3 (by assumption)) ?_ | refine bnd (decM3 _ _ _) ?_ | refine bnd (ldI0 (by assumption)) ?_ | refine bnd (ldI1 (by assumption)) ?_ | refine bnd (ldL2 (by assumption)) ?_ | refine jn ?_ | refine gp1 ?_ ?_ | refine gp2 ?_ ?_ ?_ | refine gp3 ?_ ?_ ?_ ?_ | refine bnd (ldZ0 (by assumption)) ?_ | refine bnd (ldZ1 (by assumption)) ?_ | refine bnd (ldZ2 (by assumption)) ?_ | rfl
          refine bnd tE (ifn (by simp) (ifn (by simp) ?_))
          with_reducible repeat' first | refine sbn ?_ | refine bnd (ldM3 (by assumption)) ?_ | refine bnd (decM3 _ _ _) ?_ | refine bnd (ldI0 (by assumption)) ?_ | refine bnd (ldI1 (by assumption)) ?_ | refine bnd (ldL2 (by assumption)) ?_ | refine jn ?_ | refine gp1 ?_ ?_ | refine gp2 ?_ ?_ ?_ | refine gp3 ?_ ?_ ?_ ?_ | refine bnd (ldZ0 (by assumption)) ?_ | refine bnd (ldZ1 (by assumption)) ?_ | refine bnd (ldZ2 (by assumption)) ?_ | rfl
          refine bnd uX (bnd ust ?_)
          with_reducible repeat' first | refine sbn ?_ | refine bnd (ldM3 (by assumption)) ?_ | refine bnd (decM3 _ _ _) ?_ | refine bnd (ldI0 (by assumption)) ?_ | refine bnd (ldI1 (by assumption)) ?_ | refine bnd (ldL2 (by assumption)) ?_ | refine jn ?_ | refine gp1 ?_ ?_ | refine gp2 ?_ ?_ ?_ | refine gp3 ?_ ?_ ?_ ?_ | refine bnd (ldZ0 (by assumption)) ?_ | refine bnd (ldZ1 (by assumption)) ?_ | refine bnd (ldZ2 (by assumption)) ?_ | rfl
          refine bnd uY (bnd ust' ?_)
          with_reducible repeat' first | refine sbn ?_ | refine bnd (ldM3 (by assumption)) ?_ | refine bnd (decM3 _ _ _) ?_ | refine bnd (ldI0 (by assumption)) ?_ | refine bnd (ldI1 (by assumption)) ?_ | refine bnd (ldL2 (by assumption)) ?_ | refine jn ?_ | refine gp1 ?_ ?_ | refine gp2 ?_ ?_ ?_ | refine gp3 ?_ ?_ ?_ ?_ | refine bnd (ldZ0 (by assumption)) ?_ | refine bnd (ldZ1 (by assumption)) ?_ | refine bnd (ldZ2 (by assumption)) ?_ | rfl
          refine bnd uE (ifp rfl (ifp (by simp) ?_))
          with_reducible repeat' first | refine sbn ?_ | refine bnd (ldM3 (by assumption)) ?_ | refine bnd (decM3 _ _ _) ?_ | refine bnd (ldI0 (by assumption)) ?_ | refine bnd (ldI1 (by assumption)) ?_ | refine bnd (ldL2 (by assumption)) ?_ | refine jn ?_ | refine gp1 ?_ ?_ | refine gp2 ?_ ?_ ?_ | refine gp3 ?_ ?_ ?_ ?_ | refine bnd (ldZ0 (by assumption)) ?_ | refine bnd (ldZ1 (by assumption)) ?_ | refine bnd (ldZ2 (by assumption)) ?_ | rfl
          refine bnd eV1 (ifp rfl ?_)
          with_reducible repeat' first | refine sbn ?_ | refine bnd (ldM3 (by assumption)) ?_ | refine bnd (decM3 _ _ _) ?_ | refine bnd (ldI0 (by assumption)) ?_ | refine bnd (ldI1 (by assumption)) ?_ | refine bnd (ldL2 (by assumption)) ?_ | refine jn ?_ | refine gp1 ?_ ?_ | refine gp2 ?_ ?_ ?_ | refine gp3 ?_ ?_ ?_ ?_ | refine bnd (ldZ0 (by assumption)) ?_ | refine bnd (ldZ1 (by assumption)) ?_ | refine bnd (ldZ2 (by assumption)) ?_ | rfl
          refine bnd eV2 (ifp rfl ?_)
          exact bnd eS rfl
    · refine ⟨g6, ?_⟩
      refine bnd e3 ?_
      with_reducible repeat' first | refine sbn ?_ | refine bnd (ldM3 (by assumption)) ?_ | refine bnd (decM3 _ _ _) ?_ | refine bnd (ldI0 (by assumption)) ?_ | refine bnd (ldI1 (by assumption)) ?_ | refine bnd (ldL2 (by assumption)) ?_ | refine jn ?_ | refine gp1 ?_ ?_ | refine gp2 ?_ ?_ ?_ | refine gp3 ?_ ?_ ?_ ?_ | refine bnd (ldZ0 (by assumption)) ?_ | refine bnd (ldZ1 (by assumption)) ?_ | refine bnd (ldZ2 (by assumption)) ?_ | rfl
      refine ifn (by simp) (bnd e4 ?_)
      with_reducible repeat' first | refine sbn ?_ | refine bnd (ldM3 (by assumption)) ?_ | refine bnd (decM3 _ _ _) ?_ | refine bnd (ldI0 (by assumption)) ?_ | refine bnd (ldI1 (by assumption)) ?_ | refine bnd (ldL2 (by assumption)) ?_ | refine jn ?_ | refine gp1 ?_ ?_ | refine gp2 ?_ ?_ ?_ | refine gp3 ?_ ?_ ?_ ?_ | refine bnd (ldZ0 (by assumption)) ?_ | refine bnd (ldZ1 (by assumption)) ?_ | refine bnd (ldZ2 (by assumption)) ?_ | rfl
      refine ifn (by simp) ?_
      with_reducible repeat' first | refine sbn ?_ | refine bnd (ldM3 (by assumption)) ?_ | refine bnd (decM3 _ _ _) ?_ | refine bnd (ldI0 (by assumption)) ?_ | refine bnd (ldI1 (by assumption)) ?_ | refine bnd (ldL2 (by assumption)) ?_ | refine jn ?_ | refine gp1 ?_ ?_ | refine gp2 ?_ ?_ ?_ | refine gp3 ?_ ?_ ?_ ?_ | refine bnd (ldZ0 (by assumption)) ?_ | refine bnd (ldZ1 (by assumption)) ?_ | refine bnd (ldZ2 (by assumption)) ?_ | rfl
      refine bnd e5 (ifn (by simp [b1]) ?_)
      with_reducible repeat' first | refine sbn ?_ | refine bnd (ldM3 (by assumption)) ?_ | refine bnd (decM3 _ _ _) ?_ | refine bnd (ldI0 (by assumption)) ?_ | refine bnd (ldI1 (by assumption)) ?_ | refine bnd (ldL2 (by assumption)) ?_ | refine jn ?_ | refine gp1 ?_ ?_ | refine gp2 ?_ ?_ ?_ | refine gp3 ?_ ?_ ?_ ?_ | refine bnd (ldZ0 (by assumption)) ?_ | refine bnd (ldZ1 (by assumption)) ?_ | refine bnd (ldZ2 (by assumption)) ?_ | rfl
      refine bnd e6 (ifp (by simp [b2]) ?_)
      exact ifp rfl rfl
  · refine ⟨g5, ?_⟩
    refine bnd e3 ?_
    with_reducible repeat' first | refine sbn ?_ | refine bnd (ldM3 (by assumption)) ?_ | refine bnd (decM3 _ _ _) ?_ | refine bnd (ldI0 (by assumption)) ?_ | refine bnd (ldI1 (by assumption)) ?_ | refine bnd (ldL2 (by assumption)) ?_ | refine jn ?_ | refine gp1 ?_ ?_ | refine gp2 ?_ ?_ ?_ | refine gp3 ?_ ?_ ?_ ?_ | refine bnd (ldZ0 (by assumption)) ?_ | refine bnd (ldZ1 (by assumption)) ?_ | refine bnd (ldZ2 (by assumption)) ?_ | rfl
    refine ifn (by simp) (bnd e4 ?_)
    with_reducible repeat' first | refine sbn ?_ | refine bnd (ldM3 (by assumption)) ?_ | refine bnd (decM3 _ _ _) ?_ | refine bnd (ldI0 (by assumption)) ?_ | refine bnd (ldI1 (by assumption)) ?_ | refine bnd (ldL2 (by assumption)) ?_ | refine jn ?_ | refine gp1 ?_ ?_ | refine gp2 ?_ ?_ ?_ | refine gp3 ?_ ?_ ?_ ?_ | refine bnd (ldZ0 (by assumption)) ?_ | refine bnd (ldZ1 (by assumption)) ?_ | refine bnd (ldZ2 (by assumption)) ?_ | rfl
    refine ifn (by simp) ?_
    with_reducible repeat' first | refine sbn ?_ | refine bnd (ldM3 (by assumption)) ?_ | refine bnd (decM3 _ _ _) ?_ | refine bnd (ldI0 (by assumption)) ?_ | refine bnd (ldI1 (by assumption)) ?_ | refine bnd (ldL2 (by assumption)) ?_ | refine jn ?_ | refine gp1 ?_ ?_ | refine gp2 ?_ ?_ ?_ | refine gp3 ?_ ?_ ?_ ?_ | refine bnd (ldZ0 (by assumption)) ?_ | refine bnd (ldZ1 (by assumption)) ?_ | refine bnd (ldZ2 (by assumption)) ?_ | rfl
    refine bnd e5 (ifp (by simp [b1]) ?_)
    exact ifp rfl rfl
end Gy
