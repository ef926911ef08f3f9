import Derived.Test.YtcacldakplomnaaGreatSp1
namespace Gq
open Go Gx Go.Proofs Fe
def El (N : Nat) (g : Nat → Nat) : Prop := ∀ t, t < N → g t < 256
def Vw (C : Nat) (g : Nat → Nat) : Mt := fun i j => of (g (i * C + j))
def sg (l r i : Nat) : Nat := if i = l then r else if i = r then l else i
theorem pos_lt {R C i j : Nat} (hi : i < R) (hj : j < C) : i * C + j < R * C := by have := le_row (c := C) hi; omega
theorem sg_lt {R l r i : Nat} (hl : l < R) (hr : r < R) (hi : i < R) : sg l r i < R := by
 unfold sg
 split
 ·exact hr
 ·split
  ·exact hl
  ·exact hi
section
variable {R C C2 l r jj : Nat} {g u : Nat → Nat}
theorem Vw_swap {i j : Nat} (hj : j < C) : Vw C (swapR C l r g) i j = Vw C g (sg l r i) j := by
 unfold Vw swapR sg
 rw [pos_div hj, pos_mod hj]
 by_cases e : i = l
 ·rw [if_pos e, if_pos e]
 ·rw [if_neg e, if_neg e]
  by_cases e2 : i = r
  ·rw [if_pos e2, if_pos e2]
  ·rw [if_neg e2, if_neg e2]
theorem swap_El (hl : l < R) (hr : r < R) (hC : 0 < C) (h : El (R * C) g) : El (R * C) (swapR C l r g) := fun t ht => by
 have hm := Nat.mod_lt t hC
 unfold swapR
 split
 ·exact h _ (pos_lt hr hm)
 ·split
  ·exact h _ (pos_lt hl hm)
  ·exact h t ht
theorem Vw_div {b i j : Nat} (hb : b < 256) (b0 : b ≠ 0) (h : El (R * C) g) (hi : i < R) (hj : j < C) : Vw C (divR C r b g) i j = (if i = r then Fe.inv (of b) else 1) * Vw C g i j := by
 have hx := h _ (pos_lt hi hj)
 unfold Vw divR
 rw [pos_div hj]
 by_cases e : i = r
 ·rw [if_pos e, if_pos e, ← div_scl hx hb b0, of_mul hx divT_lt, mul_comm]
  congr 1
  exact Fe.ext (by rw [of_v divT_lt]; show divT 1 b = divT 1 (of b).v; rw [of_v hb])
 ·rw [if_neg e, if_neg e, one_mul]
theorem Vw_elim {i j : Nat} (h : El (R * C) g) (hr : r < R) (hjj : jj < C) (hi : i < R) (hj : j < C) : Vw C (elimG C r jj g) i j = Vw C g i j + (if i = r then 0 else Vw C g i jj) * Vw C g r j := by
 unfold Vw elimG
 rw [pos_div hj, pos_mod hj]
 by_cases e : i = r
 ·rw [if_pos e, if_pos e, zero_mul, add_zero]
 ·rw [if_neg e, if_neg e, of_xor (h _ (pos_lt hi hj)) (mulT_lt _ _), of_mul (h _ (pos_lt hr hj)) (h _ (pos_lt hi hjj)), mul_comm (of (g (r * C + j)))]
theorem Vw_elimU {i j : Nat} (h : El (R * C) g) (hu : El (R * C2) u) (hr : r < R) (hjj : jj < C) (hi : i < R) (hj : j < C2) : Vw C2 (elimU C C2 r jj g u) i j = Vw C2 u i j + (if i = r then 0 else Vw C g i jj) * Vw C2 u r j := by
 unfold Vw elimU
 rw [pos_div hj, pos_mod hj]
 by_cases e : i = r
 ·rw [if_pos e, if_pos e, zero_mul, add_zero]
 ·rw [if_neg e, if_neg e, of_xor (hu _ (pos_lt hi hj)) (mulT_lt _ _), of_mul (hu _ (pos_lt hr hj)) (h _ (pos_lt hi hjj)), mul_comm (of (u (r * C2 + j)))]
theorem elim_El (h : El (R * C) g) : El (R * C) (elimG C r jj g) := fun t ht => by
 unfold elimG
 split
 ·exact h t ht
 ·exact xor_lt (h t ht) (mulT_lt _ _)
theorem elimU_El (h : El (R * C2) u) : El (R * C2) (elimU C C2 r jj g u) := fun t ht => by
 unfold elimU
 split
 ·exact h t ht
 ·exact xor_lt (h t ht) (mulT_lt _ _)
def stM (l r jj : Nat) (A : Mt) (B : Mt) : Mt :=
 let h : Mt := fun i j => (if i = r then Fe.inv (A (sg l r r) jj) else 1) * B (sg l r i) j
 fun i j => h i j + (if i = r then 0 else (if i = r then Fe.inv (A (sg l r r) jj) else 1) * A (sg l r i) jj) * h r j
theorem Vw_stepG (h : El (R * C) g) (hl : l < R) (hr : r < R) (hjj : jj < C) (hp : g (l * C + jj) ≠ 0) : Eqm R C (Vw C (stepG C jj l r g)) (stM l r jj (Vw C g) (Vw C g)) ∧ El (R * C) (stepG C jj l r g) := by
 have hC : 0 < C := by omega
 have e1 := swap_El hl hr hC h
 obtain ⟨b, hb⟩ : ∃ b, b = swapR C l r g (r * C + jj) := ⟨_, rfl⟩
 have hb1 : b < 256 := by rw [hb]; exact e1 _ (pos_lt hr hjj)
 have ob : of b = Vw C g (sg l r r) jj := by rw [← Vw_swap hjj, hb]; rfl
 have hb0 : b ≠ 0 := fun e => hp (by
  have : Vw C g (sg l r r) jj = Vw C g l jj := by
   unfold sg
   by_cases e : r = l
   ·rw [if_pos e, e]
   ·rw [if_neg e, if_pos rfl]
  rw [this, e] at ob
  exact of_inj (h _ (pos_lt hl hjj)) (by omega) ob.symm)
 have e2 : El (R * C) (divR C r b (swapR C l r g)) := divR_el e1
 have es : stepG C jj l r g = elimG C r jj (divR C r b (swapR C l r g)) := by rw [hb]; rfl
 refine ⟨fun i j hi hj => ?_, by rw [es]; exact elim_El e2⟩
 rw [es, Vw_elim e2 hr hjj hi hj, Vw_div hb1 hb0 e1 hi hj, Vw_div hb1 hb0 e1 hi hjj, Vw_div hb1 hb0 e1 hr hj, Vw_swap hj, Vw_swap hj, Vw_swap hjj, ob]
 rfl
theorem Vw_stepU (h : El (R * C) g) (hu : El (R * C2) u) (hl : l < R) (hr : r < R) (hjj : jj < C) (hC2 : 0 < C2) (hp : g (l * C + jj) ≠ 0) : Eqm R C2 (Vw C2 (stepU C C2 jj l r g u)) (stM l r jj (Vw C g) (Vw C2 u)) ∧ El (R * C2) (stepU C C2 jj l r g u) := by
 have hC : 0 < C := by omega
 have e1 := swap_El hl hr hC h
 have u1 := swap_El hl hr hC2 hu
 obtain ⟨b, hb⟩ : ∃ b, b = swapR C l r g (r * C + jj) := ⟨_, rfl⟩
 have hb1 : b < 256 := by rw [hb]; exact e1 _ (pos_lt hr hjj)
 have ob : of b = Vw C g (sg l r r) jj := by rw [← Vw_swap hjj, hb]; rfl
 have hb0 : b ≠ 0 := fun e => hp (by
  have : Vw C g (sg l r r) jj = Vw C g l jj := by
   unfold sg
   by_cases e : r = l
   ·rw [if_pos e, e]
   ·rw [if_neg e, if_pos rfl]
  rw [this, e] at ob
  exact of_inj (h _ (pos_lt hl hjj)) (by omega) ob.symm)
 have e2 : El (R * C) (divR C r b (swapR C l r g)) := divR_el e1
 have u2 : El (R * C2) (divR C2 r b (swapR C2 l r u)) := divR_el u1
 have es : stepU C C2 jj l r g u = elimU C C2 r jj (divR C r b (swapR C l r g)) (divR C2 r b (swapR C2 l r u)) := by rw [hb]; rfl
 refine ⟨fun i j hi hj => ?_, by rw [es]; exact elimU_El u2⟩
 rw [es, Vw_elimU e2 u2 hr hjj hi hj, Vw_div hb1 hb0 u1 hi hj, Vw_div hb1 hb0 e1 hi hjj, Vw_div hb1 hb0 u1 hr hj, Vw_swap hj, Vw_swap hj, Vw_swap hjj, ob]
 rfl
theorem st_inv {A : Mt} (hl : l < R) (hr : r < R) (hp : A (sg l r r) jj ≠ 0) : ∃ T T', Inv R T T' ∧ ∀ (c : Nat) (B : Mt), Eqm R c (stM l r jj A B) (mm R T B) := by
 obtain ⟨k, hk⟩ : ∃ k, k = Fe.inv (A (sg l r r) jj) := ⟨_, rfl⟩
 have hkk : k * A (sg l r r) jj = 1 := by rw [hk]; exact inv_mul hp
 obtain ⟨m, hm⟩ : ∃ m : Nat → Fe, m = fun i => (if i = r then k else 1) * A (sg l r i) jj := ⟨_, rfl⟩
 refine ⟨mm R (elT r m) (mm R (scT r k) (swT l r)), _, (el_inv hr m).mul ((sc_inv hkk).mul (sw_inv hl hr)), fun c B i j hi _ => ?_⟩
 rw [mm_assoc, el_mm hr _ i j hi, mm_assoc, sc_mm _ i j hi, sc_mm _ r j hr, sw_mm hl hr B i j hi, sw_mm hl hr B r j hr, hm, hk]
 rfl
end
structure Ech (R : Nat) (G : Mt) (r j : Nat) (p : Nat → Nat) : Prop where
 rj : r ≤ j
 rR : r ≤ R
 pv : ∀ k, k < r → p k < j ∧ ∀ i, i < R → G i (p k) = dl i k
 zr : ∀ i, r ≤ i → i < R → ∀ c, c < j → G i c = 0
 sq : r = j → ∀ k, k < r → p k = k
theorem Ech.congr {R C r j : Nat} {G G' : Mt} {p : Nat → Nat} (h : Ech R G r j p) (hj : j ≤ C) (e : Eqm R C G' G) : Ech R G' r j p :=
 ⟨h.rj, h.rR, fun k hk => ⟨(h.pv k hk).1, fun i hi => by rw [e i _ hi (by have := (h.pv k hk).1; omega)]; exact (h.pv k hk).2 i hi⟩, fun i h1 h2 c hc => by rw [e i c h2 (by omega)]; exact h.zr i h1 h2 c hc, h.sq⟩
theorem dl_ne {i k : Nat} (h : i ≠ k) : dl i k = 0 := by unfold dl; rw [if_neg h]
theorem dl_eq (i : Nat) : dl i i = 1 := by unfold dl; rw [if_pos rfl]
theorem Ech.step {R r j l : Nat} {G : Mt} {p : Nat → Nat} (h : Ech R G r j p) (h1 : r ≤ l) (h2 : l < R) (hp : G (sg l r r) j ≠ 0) : Ech R (stM l r j G G) (r + 1) (j + 1) (fun k => if k = r then j else p k) := by
 have hr : r < R := by omega
 have sr : sg l r r = l := by
  unfold sg
  by_cases e : r = l
  ·rw [if_pos e]; exact e
  ·rw [if_neg e, if_pos rfl]
 have sge : ∀ i, r ≤ i → r ≤ sg l r i := fun i hi => by
  unfold sg
  split
  ·omega
  ·split <;> omega
 have slt : ∀ i, i < R → sg l r i < R := fun i hi => sg_lt h2 hr hi
 have kk : Fe.inv (G (sg l r r) j) * G (sg l r r) j = 1 := inv_mul hp
 have col : ∀ c, (∀ x, r ≤ x → x < R → G x c = 0) → ∀ i, i < R → stM l r j G G i c = if i = r then 0 else G (sg l r i) c := fun c hc i hi => by
  unfold stM
  dsimp only
  rw [hc (sg l r r) (by rw [sr]; exact h1) (by rw [sr]; exact h2), mul_zero, mul_zero, add_zero]
  by_cases e : i = r
  ·rw [if_pos e, if_pos e, e, hc (sg l r r) (by rw [sr]; exact h1) (by rw [sr]; exact h2), mul_zero]
  ·rw [if_neg e, if_neg e, one_mul]
 have colj : ∀ i, i < R → stM l r j G G i j = dl i r := fun i hi => by
  unfold stM
  dsimp only
  rw [if_pos rfl, kk, mul_one]
  by_cases e : i = r
  ·rw [if_pos e, if_pos e, e, kk, add_zero, dl_eq]
  ·rw [if_neg e, if_neg e, add_self, dl_ne e]
 refine ⟨by have := h.rj; omega, by omega, fun k hk => ?_, fun i h3 h4 c hc => ?_, fun e k hk => ?_⟩
 ·by_cases e : k = r
  ·rw [if_pos e]
   exact ⟨by omega, fun i hi => by rw [colj i hi, e]⟩
  ·rw [if_neg e]
   obtain ⟨q1, q2⟩ := h.pv k (by omega)
   refine ⟨by omega, fun i hi => ?_⟩
   rw [col (p k) (fun x hx hx' => by rw [q2 x hx', dl_ne (by omega)]) i hi]
   by_cases e2 : i = r
   ·rw [if_pos e2, dl_ne (by omega)]
   ·rw [if_neg e2, q2 _ (slt i hi)]
    unfold sg
    by_cases e3 : i = l
    ·rw [if_pos e3, dl_ne (by omega), dl_ne (by omega)]
    ·rw [if_neg e3, if_neg e2]
 ·by_cases e : c = j
  ·rw [e, colj i h4, dl_ne (by omega)]
  ·rw [col c (fun x hx hx' => h.zr x hx hx' c (by omega)) i h4, if_neg (by omega)]
   exact h.zr _ (sge i (by omega)) (slt i h4) c (by omega)
 ·by_cases e2 : k = r
  ·rw [if_pos e2]; omega
  ·rw [if_neg e2]; exact h.sq (by omega) k (by omega)
theorem Ech.none {R r j : Nat} {G : Mt} {p : Nat → Nat} (h : Ech R G r j p) (hz : ∀ i, r ≤ i → i < R → G i j = 0) : Ech R G r (j + 1) p :=
 ⟨by have := h.rj; omega, h.rR, fun k hk => ⟨by have := (h.pv k hk).1; omega, (h.pv k hk).2⟩, fun i h1 h2 c hc => by
  by_cases e : c = j
  ·rw [e]; exact hz i h1 h2
  ·exact h.zr i h1 h2 c (by omega), fun e => by have := h.rj; omega⟩
theorem leadN_none (C j : Nat) (g : Nat → Nat) : ∀ m i, leadN C j g m i = i + m → ∀ x, i ≤ x → x < i + m → g (x * C + j) = 0
 | 0, i, _, x, h1, h2 => by omega
 | m + 1, i, h, x, h1, h2 => by
  unfold leadN at h
  split at h
  ·rename_i e
   by_cases ex : x = i
   ·rw [ex]; exact e
   ·exact leadN_none C j g m (i + 1) (by omega) x (by omega) (by omega)
  ·omega
theorem gaussN {R C C2 : Nat} (hC2 : 0 < C2) : ∀ (m j r : Nat) (g u : Nat → Nat) (p : Nat → Nat), j + m = C → El (R * C) g → El (R * C2) u → Ech R (Vw C g) r j p →
  ∃ T T' p' j', Inv R T T' ∧ Eqm R C (Vw C (stepsN R C C2 m j r g u).2.1) (mm R T (Vw C g)) ∧ Eqm R C2 (Vw C2 (stepsN R C C2 m j r g u).2.2) (mm R T (Vw C2 u)) ∧ El (R * C) (stepsN R C C2 m j r g u).2.1 ∧ El (R * C2) (stepsN R C C2 m j r g u).2.2 ∧
   Ech R (Vw C (stepsN R C C2 m j r g u).2.1) (stepsN R C C2 m j r g u).1 j' p' ∧ j' ≤ C ∧ (j' = C ∨ (stepsN R C C2 m j r g u).1 = R)
 | 0, j, r, g, u, p, hj, hg, hu, E => ⟨dl, dl, p, j, Inv.one R, (mm_dl (Nat.le_refl R) _).symm, (mm_dl (Nat.le_refl R) _).symm, hg, hu, E, by omega, .inl (by omega)⟩
 | m + 1, j, r, g, u, p, hj, hg, hu, E => by
  have hjC : j < C := by omega
  by_cases c1 : r < R
  ·obtain ⟨l, hl⟩ : ∃ l, l = leadN C j g (R - r) r := ⟨_, rfl⟩
   have hle := leadN_le C j g (R - r) r
   rw [← hl] at hle
   by_cases c2 : l = R
   ·have es : stepsN R C C2 (m + 1) j r g u = stepsN R C C2 m (j + 1) r g u := by
     simp only [stepsN]; rw [if_pos c1, ← hl, if_pos c2]
    rw [es]
    exact gaussN hC2 m (j + 1) r g u p (by omega) hg hu (E.none fun i h1 h2 => by
     unfold Vw
     rw [leadN_none C j g (R - r) r (by omega) i h1 (by omega), of_zero])
   ·have es : stepsN R C C2 (m + 1) j r g u = stepsN R C C2 m (j + 1) (r + 1) (stepG C j l r g) (stepU C C2 j l r g u) := by
     simp only [stepsN]; rw [if_pos c1, ← hl, if_neg c2]
    have hlR : l < R := by omega
    have hp : g (l * C + j) ≠ 0 := by rw [hl]; exact leadN_ne C j g (R - r) r (by omega)
    have sr : sg l r r = l := by
     unfold sg
     by_cases e : r = l
     ·rw [if_pos e]; exact e
     ·rw [if_neg e, if_pos rfl]
    have hpV : Vw C g (sg l r r) j ≠ 0 := fun e => hp (by
     rw [sr] at e
     exact of_inj (hg _ (pos_lt hlR hjC)) (by omega) e)
    obtain ⟨gE, gL⟩ := Vw_stepG hg hlR c1 hjC hp
    obtain ⟨uE, uL⟩ := Vw_stepU hg hu hlR c1 hjC hC2 hp
    obtain ⟨T, T', TI, TE⟩ := st_inv (R := R) (jj := j) (A := Vw C g) hlR c1 hpV
    obtain ⟨S, S', p', j', SI, h1, h2, h3, h4, h5, h6, h7⟩ := gaussN hC2 m (j + 1) (r + 1) _ _ _ (by omega) gL uL ((E.step (by omega) hlR hpV).congr (by omega) gE)
    rw [es]
    refine ⟨mm R S T, _, p', j', SI.mul TI, ?_, ?_, h3, h4, h5, h6, h7⟩
    ·rw [mm_assoc]
     exact h1.trans (mm_congr (Eqm.refl R R S) (gE.trans (TE C _)))
    ·rw [mm_assoc]
     exact h2.trans (mm_congr (Eqm.refl R R S) (uE.trans (TE C2 _)))
  ·have es : stepsN R C C2 (m + 1) j r g u = (r, g, u) := by simp only [stepsN]; rw [if_neg c1]
   rw [es]
   exact ⟨dl, dl, p, j, Inv.one R, (mm_dl (Nat.le_refl R) _).symm, (mm_dl (Nat.le_refl R) _).symm, hg, hu, E, by omega, .inr (by have := E.rR; show r = R; omega)⟩
theorem stepsN_fst {R C C2 C2' : Nat} : ∀ (m j r : Nat) (g u u' : Nat → Nat), (stepsN R C C2 m j r g u).1 = (stepsN R C C2' m j r g u').1
 | 0, _, _, _, _, _ => rfl
 | m + 1, j, r, g, u, u' => by
  simp only [stepsN]
  split
  ·split
   ·exact stepsN_fst m (j + 1) r g u u'
   ·exact stepsN_fst m (j + 1) (r + 1) _ _ _
  ·rfl
end Gq
namespace Gq
open Go Gx Go.Proofs Fe
def rk (R C : Nat) (g : Nat → Nat) : Nat := (stepsN R C 1 C 0 0 g fun _ => 0).1
theorem rk_any {R C : Nat} (C2 : Nat) (g u : Nat → Nat) : (stepsN R C C2 C 0 0 g u).1 = rk R C g := stepsN_fst _ _ _ _ _ _
theorem Vw_one {n i j : Nat} (hj : j < n) : Vw n (oneN n) i j = dl i j := by
 unfold Vw oneN dl
 rw [pos_div hj, pos_mod hj]
 split
 ·exact of_one
 ·exact of_zero
theorem oneN_El (n : Nat) : El (n * n) (oneN n) := fun t _ => by unfold oneN; split <;> omega
theorem rk_le {R C : Nat} {g : Nat → Nat} : rk R C g ≤ C := by
 have := stepsN_le R C 1 C 0 0 g fun _ => 0
 unfold rk; omega
structure Gs (R C : Nat) (g : Nat → Nat) (T T' G : Mt) (p : Nat → Nat) : Prop where
 inv : Inv R T T'
 eq : Eqm R C G (mm R T (Vw C g))
 rR : rk R C g ≤ R
 pv : ∀ k, k < rk R C g → p k < C ∧ ∀ i, i < R → G i (p k) = dl i k
 zr : ∀ i, rk R C g ≤ i → i < R → ∀ c, c < C → G i c = 0
 sq : R = C → rk R C g = R → Eqm R R G dl
theorem gauss {R C : Nat} {g : Nat → Nat} (hR : 0 < R) (hg : El (R * C) g) : ∃ T T' G p, Gs R C g T T' G p ∧ Eqm R R (Vw R (stepsN R C R C 0 0 g (oneN R)).2.2) T := by
 obtain ⟨T, T', p, j, I, h1, h2, _, _, E, hj, h3⟩ := gaussN (C := C) hR C 0 0 g (oneN R) (fun k => k) (by omega) hg (oneN_El R) ⟨by omega, by omega, fun k hk => by omega, fun i _ _ c hc => by omega, fun _ k hk => by omega⟩
 have er := rk_any (R := R) (C := C) R g (oneN R)
 rw [er] at E h3
 refine ⟨T, T', _, p, ⟨I, h1, E.rR, fun k hk => ⟨by have := (E.pv k hk).1; omega, (E.pv k hk).2⟩, fun i h4 h5 c hc => ?_, fun e1 e2 => ?_⟩, ?_⟩
 ·rcases h3 with h3 | h3
  ·exact E.zr i h4 h5 c (by omega)
  ·omega
 ·subst e1
  have e3 : j = R := by
   have := E.rj
   omega
  intro i k hi hk
  have := (E.pv k (by omega)).2 i hi
  rwa [E.sq (by omega) k (by omega)] at this
 ·exact h2.trans ((mm_congr (Eqm.refl R R T) (fun i j _ hj => Vw_one hj)).trans (dl_mm (Nat.le_refl R) T))
theorem sm_trunc : ∀ {n r : Nat} {f : Nat → Fe}, r ≤ n → (∀ k, r ≤ k → k < n → f k = 0) → sm n f = sm r f
 | 0, r, f, h, _ => by
   obtain rfl : r = 0 := by omega
   rfl
 | n + 1, r, f, h, hz => by
  by_cases e : r = n + 1
  ·rw [e]
  ·rw [sm_s, hz n (by omega) (by omega), add_zero]
   exact sm_trunc (by omega) fun k h1 h2 => hz k h1 (by omega)
def Fac (k R C : Nat) (A : Mt) : Prop := ∃ P Q, Eqm R C A (mm k P Q)
theorem Gs.back {R C : Nat} {g : Nat → Nat} {T T' G : Mt} {p : Nat → Nat} (S : Gs R C g T T' G p) : Eqm R C (Vw C g) (mm R T' G) := by
 have : Eqm R C (mm R T' G) (mm R (mm R T' T) (Vw C g)) := by
  rw [mm_assoc]
  exact mm_congr (Eqm.refl R R T') S.eq
 exact (this.trans ((mm_congr S.inv.r (Eqm.refl R C _)).trans (mm_dl (Nat.le_refl R) _))).symm
theorem rk_fac {R C : Nat} {g : Nat → Nat} (hR : 0 < R) (hg : El (R * C) g) : Fac (rk R C g) R C (Vw C g) := by
 obtain ⟨T, T', G, p, S, _⟩ := gauss hR hg
 refine ⟨T', G, S.back.trans fun i j hi hj => ?_⟩
 exact sm_trunc S.rR fun k h1 h2 => by rw [S.zr k h1 h2 j hj, mul_zero]
def fl (C : Nat) (A : Mt) : Nat → Nat := fun t => (A (t / C) (t % C)).v
theorem fl_El (C N : Nat) (A : Mt) : El N (fl C A) := fun _ _ => Fe.lt _
theorem Vw_fl {C i j : Nat} (A : Mt) (hj : j < C) : Vw C (fl C A) i j = A i j := by
 unfold Vw fl
 rw [pos_div hj, pos_mod hj, of_self]
theorem kernel {R C : Nat} {g : Nat → Nat} (hR : 0 < R) (hg : El (R * C) g) (h : rk R C g < R) : ∃ v : Nat → Fe, (∃ i, i < R ∧ v i ≠ 0) ∧ ∀ c, c < C → sm R (fun k => v k * Vw C g k c) = 0 := by
 obtain ⟨T, T', G, p, S, _⟩ := gauss hR hg
 refine ⟨T (R - 1), Classical.byContradiction fun hn => ?_, fun c hc => ?_⟩
 ·have hz : ∀ i, i < R → T (R - 1) i = 0 := fun i hi => Classical.byContradiction fun e => hn ⟨i, hi, e⟩
  have := S.inv.l (R - 1) (R - 1) (by omega) (by omega)
  rw [dl_eq] at this
  exact one_ne (this.symm.trans (sm_zero fun k hk => by rw [hz k hk, zero_mul]))
 ·exact (S.eq (R - 1) c (by omega) hc).symm.trans (S.zr (R - 1) (by omega) (by omega) c hc)
theorem no_wide {r k : Nat} {X Y : Mt} (h : Eqm r r dl (mm k X Y)) : r ≤ k := Classical.byContradiction fun hn => by
 have hkr : k < r := by omega
 have hlt : rk r k (fl k X) < r := Nat.lt_of_le_of_lt rk_le hkr
 obtain ⟨v, ⟨i, hi, hv⟩, hz⟩ := kernel (by omega) (fl_El k (r * k) X) hlt
 refine hv ?_
 have e1 : sm r (fun l => v l * dl l i) = v i := sm_dl' v hi
 rw [← e1, sm_congr (g := fun l => sm k fun c => v l * X l c * Y c i) fun l hl => by
  rw [h l i hl hi]
  show v l * sm k (fun c => X l c * Y c i) = _
  rw [← sm_mul]
  exact sm_congr fun c _ => (mul_assoc _ _ _).symm, sm_swap]
 refine sm_zero fun c hc => ?_
 rw [sm_mul', sm_congr (g := fun l => v l * Vw k (fl k X) l c) fun l _ => by rw [Vw_fl X hc], hz c hc, zero_mul]
theorem rk_min {k R C : Nat} {g : Nat → Nat} (hR : 0 < R) (hg : El (R * C) g) (h : Fac k R C (Vw C g)) : rk R C g ≤ k := by
 obtain ⟨P, Q, e⟩ := h
 obtain ⟨T, T', G, p, S, _⟩ := gauss hR hg
 have rR := S.rR
 refine no_wide (X := mm R T P) (Y := fun l j => Q l (p j)) fun i j hi hj => ?_
 obtain ⟨h1, h2⟩ := S.pv j hj
 rw [← h2 i (by omega), S.eq i (p j) (by omega) h1]
 have : mm R T (Vw C g) i (p j) = mm R T (mm k P Q) i (p j) := mm_congr (Eqm.refl R R T) e i (p j) (by omega) h1
 rw [this, ← mm_assoc]
 rfl
theorem Fac.congr {k R C : Nat} {A A' : Mt} (e : Eqm R C A A') (h : Fac k R C A) : Fac k R C A' := by
 obtain ⟨P, Q, f⟩ := h
 exact ⟨P, Q, e.symm.trans f⟩
theorem Fac.tr {k R C : Nat} {A : Mt} (h : Fac k R C A) : Fac k C R (tr A) := by
 obtain ⟨P, Q, e⟩ := h
 refine ⟨Gq.tr Q, Gq.tr P, fun i j hi hj => ?_⟩
 show A j i = _
 rw [e j i hj hi, ← tr_mm]
 rfl
theorem rk_tr {R C : Nat} {g g' : Nat → Nat} (hR : 0 < R) (hC : 0 < C) (hg : El (R * C) g) (hg' : El (C * R) g') (e : Eqm C R (Vw R g') (tr (Vw C g))) : rk C R g' = rk R C g := by
 apply Nat.le_antisymm
 ·exact rk_min hC hg' ((rk_fac hR hg).tr.congr e.symm)
 ·refine rk_min hR hg ((rk_fac hC hg').tr.congr fun i j hi hj => ?_)
  exact e j i hj hi
theorem Vw_turn {R C : Nat} {g : Nat → Nat} : Eqm C R (Vw R (turnF R C g)) (tr (Vw C g)) := fun i j _ hj => by
 show of (turnF R C g (i * R + j)) = of (g (j * C + i))
 rw [turnF_at hj]
theorem turn_El {R C : Nat} {g : Nat → Nat} (hR : 0 < R) (hg : El (R * C) g) : El (C * R) (turnF R C g) := fun t ht => by
 have hd := (Nat.div_lt_iff_lt_mul hR).2 ht
 have hm := Nat.mod_lt t hR
 exact hg _ (pos_lt hm hd)
end Gq
namespace Gq
open Go Gx Go.Proofs Fe
def ls : List Nat → (Nat → Fe) → Fe
 | [], _ => 0
 | y :: l, f => f y + ls l f
theorem ls_congr : ∀ {l : List Nat} {f g : Nat → Fe}, (∀ y ∈ l, f y = g y) → ls l f = ls l g
 | [], _, _, _ => rfl
 | y :: l, f, g, h => by
  show f y + ls l f = g y + ls l g
  rw [h y (by simp), ls_congr fun z hz => h z (by simp [hz])]
theorem ls_zero : ∀ {l : List Nat} {f : Nat → Fe}, (∀ y ∈ l, f y = 0) → ls l f = 0
 | [], _, _ => rfl
 | y :: l, f, h => by
  show f y + ls l f = 0
  rw [h y (by simp), ls_zero fun z hz => h z (by simp [hz]), add_zero]
theorem ls_add : ∀ (l : List Nat) (f g : Nat → Fe), ls l (fun y => f y + g y) = ls l f + ls l g
 | [], _, _ => (add_zero 0).symm
 | y :: l, f, g => by
  show f y + g y + ls l (fun y => f y + g y) = f y + ls l f + (g y + ls l g)
  rw [ls_add l f g]
  ac_rfl
theorem ls_mul : ∀ (l : List Nat) (c : Fe) (f : Nat → Fe), ls l (fun y => c * f y) = c * ls l f
 | [], c, _ => (mul_zero c).symm
 | y :: l, c, f => by
  show c * f y + ls l (fun y => c * f y) = c * (f y + ls l f)
  rw [ls_mul l c f, mul_add]
theorem ls_append : ∀ (l m : List Nat) (f : Nat → Fe), ls (l ++ m) f = ls l f + ls m f
 | [], m, f => (zero_add _).symm
 | y :: l, m, f => by
  show f y + ls (l ++ m) f = f y + ls l f + ls m f
  rw [ls_append l m f, add_assoc]
theorem sm_ls (p : Nat → Bool) : ∀ {k : Nat} {f : Nat → Fe}, (∀ j, p j = false → f j = 0) → sm k f = ls ((List.range k).filter p) f
 | 0, _, _ => rfl
 | k + 1, f, h => by
  rw [sm_s, List.range_succ, List.filter_append, ls_append, sm_ls p h]
  congr 1
  by_cases e : p k = true
  ·rw [List.filter_cons_of_pos e]
   show f k = f k + 0
   rw [add_zero]
  ·rw [List.filter_cons_of_neg e, h k (by simpa using e)]
   rfl
theorem inv_ne {a : Fe} (h : a ≠ 0) : Fe.inv a ≠ 0 := fun e => one_ne (by rw [← inv_mul h, e, zero_mul])
theorem inv_add {a b : Fe} (ha : a ≠ 0) (hb : b ≠ 0) : Fe.inv a + Fe.inv b = (a + b) * (Fe.inv a * Fe.inv b) := by
 rw [add_mul, ← mul_assoc, mul_inv ha, one_mul, mul_comm (Fe.inv a), ← mul_assoc, mul_inv hb, one_mul, add_comm]
theorem add_ne {a b : Fe} (h : a ≠ b) : a + b ≠ 0 := fun e => h (add_eq_zero e)
theorem cauchy_kernel : ∀ (ys xs : List Nat) (f : Nat → Fe), ys.Nodup → xs.Nodup → ys.length ≤ xs.length → (∀ x ∈ xs, ∀ y ∈ ys, of x ≠ of y) → (∀ a ∈ ys, ∀ b ∈ ys, of a = of b → a = b) → (∀ a ∈ xs, ∀ b ∈ xs, of a = of b → a = b) →
  (∀ x ∈ xs, ls ys (fun y => f y * Fe.inv (of x + of y)) = 0) → ∀ y ∈ ys, f y = 0
 | [], _, _, _, _, _, _, _, _, _ => fun y hy => by simp at hy
 | y0 :: ys, [], _, _, _, h, _, _, _, _ => by simp at h
 | y0 :: ys, x0 :: xs, f, ny, nx, hl, hxy, iy, ix, hz => by
  have n0 : of x0 + of y0 ≠ 0 := add_ne (hxy x0 (by simp) y0 (by simp))
  have ny' := List.nodup_cons.1 ny
  have nx' := List.nodup_cons.1 nx
  have key : ∀ x ∈ x0 :: xs, f y0 + ls ys (fun y => f y + f y * ((of y0 + of y) * Fe.inv (of x + of y))) = 0 := fun x hx => by
   have h1 := hz x hx
   have nx0 : of x + of y0 ≠ 0 := add_ne (hxy x hx y0 (by simp))
   have h2 : (of x + of y0) * ls (y0 :: ys) (fun y => f y * Fe.inv (of x + of y)) = 0 := by rw [h1, mul_zero]
   rw [← ls_mul] at h2
   have h3 : ls (y0 :: ys) (fun y => (of x + of y0) * (f y * Fe.inv (of x + of y))) = f y0 + ls ys (fun y => f y + f y * ((of y0 + of y) * Fe.inv (of x + of y))) := by
    show (of x + of y0) * (f y0 * Fe.inv (of x + of y0)) + ls ys _ = _
    congr 1
    ·rw [mul_comm (f y0), ← mul_assoc, mul_inv nx0, one_mul]
    ·refine ls_congr fun y hy => ?_
     have ne : of x + of y ≠ 0 := add_ne (hxy x hx y (by simp [hy]))
     have e : of x + of y0 = (of x + of y) + (of y0 + of y) := by
      have : (of x + of y) + (of y0 + of y) = of x + of y0 + (of y + of y) := by ac_rfl
      rw [this, add_self, add_zero]
     rw [e, add_mul, mul_comm (f y), ← mul_assoc, mul_inv ne, one_mul]
     congr 1
     ac_rfl
   rw [h3] at h2
   exact h2
  have ih := cauchy_kernel ys xs (fun y => f y * (of y0 + of y) * Fe.inv (of x0 + of y)) ny'.2 nx'.2 (by simp at hl; exact hl) (fun x hx y hy => hxy x (by simp [hx]) y (by simp [hy])) (fun a ha b hb => iy a (by simp [ha]) b (by simp [hb]))
   (fun a ha b hb => ix a (by simp [ha]) b (by simp [hb])) (fun x hx => by
    have k0 := key x0 (by simp)
    have k1 := key x (by simp [hx])
    have nxx : of x + of x0 ≠ 0 := add_ne fun e => nx'.1 (by rw [← ix x (by simp [hx]) x0 (by simp) e]; exact hx)
    refine mul_cancel nxx ?_
    rw [← ls_mul]
    have e1 : ls ys (fun y => (of x + of x0) * (f y * (of y0 + of y) * Fe.inv (of x0 + of y) * Fe.inv (of x + of y))) = ls ys (fun y => f y * ((of y0 + of y) * Fe.inv (of x + of y))) + ls ys (fun y => f y * ((of y0 + of y) * Fe.inv (of x0 + of y))) := by
     rw [← ls_add]
     refine ls_congr fun y hy => ?_
     have na : of x + of y ≠ 0 := add_ne (hxy x (by simp [hx]) y (by simp [hy]))
     have nb : of x0 + of y ≠ 0 := add_ne (hxy x0 (by simp) y (by simp [hy]))
     have s : of x + of x0 = of x + of y + (of x0 + of y) := by
      have : of x + of y + (of x0 + of y) = of x + of x0 + (of y + of y) := by ac_rfl
      rw [this, add_self, add_zero]
     rw [← mul_add, ← mul_add, inv_add na nb, ← s]
     ac_rfl
    rw [e1]
    rw [ls_add] at k0 k1
    have : (f y0 + (ls ys f + ls ys fun y => f y * ((of y0 + of y) * Fe.inv (of x + of y)))) + (f y0 + (ls ys f + ls ys fun y => f y * ((of y0 + of y) * Fe.inv (of x0 + of y)))) = 0 := by
     have q1 : (f y0 + (ls ys f + ls ys fun y => f y * ((of y0 + of y) * Fe.inv (of x + of y)))) = 0 := k1
     have q0 : (f y0 + (ls ys f + ls ys fun y => f y * ((of y0 + of y) * Fe.inv (of x0 + of y)))) = 0 := k0
     rw [q1, q0, add_zero]
    have e2 : (f y0 + (ls ys f + ls ys fun y => f y * ((of y0 + of y) * Fe.inv (of x + of y)))) + (f y0 + (ls ys f + ls ys fun y => f y * ((of y0 + of y) * Fe.inv (of x0 + of y)))) =
      (f y0 + f y0) + (ls ys f + ls ys f) + (ls ys (fun y => f y * ((of y0 + of y) * Fe.inv (of x + of y))) + ls ys (fun y => f y * ((of y0 + of y) * Fe.inv (of x0 + of y)))) := by ac_rfl
    rw [e2, add_self, add_self, add_zero, zero_add] at this
    exact this)
  have hys : ∀ y ∈ ys, f y = 0 := fun y hy => by
   have h1 := ih y hy
   have na : of y0 + of y ≠ 0 := add_ne fun e => ny'.1 (by rw [iy y0 (by simp) y (by simp [hy]) e]; exact hy)
   have nb : Fe.inv (of x0 + of y) ≠ 0 := inv_ne (add_ne (hxy x0 (by simp) y (by simp [hy])))
   have : (of y0 + of y) * Fe.inv (of x0 + of y) * f y = 0 := by
    rw [← h1]; ac_rfl
   exact mul_cancel (mul_ne na nb) this
  intro y hy
  rcases List.mem_cons.1 hy with rfl | hy
  ·have h1 := hz x0 (by simp)
   have h2 : f y * Fe.inv (of x0 + of y) + ls ys (fun z => f z * Fe.inv (of x0 + of z)) = 0 := h1
   rw [ls_zero fun z hz => by rw [hys z hz, zero_mul], add_zero, mul_comm] at h2
   exact mul_cancel (inv_ne n0) h2
  ·exact hys y hy
theorem nodup_filter {p : Nat → Bool} {l : List Nat} (h : l.Nodup) : (l.filter p).Nodup := List.Pairwise.filter p h
theorem nodup_le : ∀ (k : Nat) (l : List Nat), l.Nodup → (∀ x ∈ l, x < k) → l.length ≤ k
 | 0, l, _, h => by
  cases l with
  | nil => simp
  | cons x l => exact absurd (h x (by simp)) (by omega)
 | k + 1, l, hn, h => by
  have ih := nodup_le k (l.erase k) (hn.erase k) fun x hx => by
   have h1 := (List.Nodup.mem_erase_iff hn).1 hx
   have := h x h1.2
   have := h1.1
   omega
  have := List.length_erase (a := k) (l := l)
  rw [this] at ih
  split at ih <;> omega
def cauN (k t : Nat) : Nat := (cau k t).toNat
theorem cauN_at {i j k : Nat} (hj : j < k) : cauN k (i * k + j) = if i < k then (if i = j then 1 else 0) else divT 1 (i ^^^ j) := by
 unfold cauN
 rw [cau_at hj]
 split
 ·split <;> rfl
 ·simp
theorem cauN_El {k N : Nat} (hk : 0 < k) : El N (cauN k) := fun t _ => by
 have e : t / k * k + t % k = t := by have := Nat.div_add_mod t k; rw [Nat.mul_comm] at this; exact this
 rw [← e, cauN_at (Nat.mod_lt _ hk)]
 split
 ·split <;> omega
 ·exact divT_lt
theorem Vw_cau {i j k : Nat} (hi : i < 256) (hj : j < k) (hk : k ≤ 256) : Vw k (cauN k) i j = if i < k then dl i j else Fe.inv (of i + of j) := by
 unfold Vw
 rw [cauN_at hj]
 by_cases e : i < k
 ·rw [if_pos e, if_pos e]
  unfold dl
  split
  ·exact of_one
  ·exact of_zero
 ·rw [if_neg e, if_neg e, ← of_xor hi (by omega)]
  refine Fe.ext ?_
  rw [of_v divT_lt]
  show _ = divT 1 (of (i ^^^ j)).v
  rw [of_v (xor_lt hi (by omega))]
theorem any_rows {k n : Nat} (hk : 0 < k) (hn : n ≤ 255) {ws : List Nat} (hl : ws.length = k) (hnd : ws.Nodup) (hlt : ∀ x ∈ ws, x < n) (w : Nat → Nat) (hw : ∀ i, i < k → ws[i]? = some (w i)) (hkn : k ≤ n) :
  rk k k (pickF k (cauN k) w) = k := by
 have hwn : ∀ i, i < k → w i < n := fun i hi => hlt _ (mem_of (hw i hi))
 have hE : El (k * k) (pickF k (cauN k) w) := fun t ht => by
  unfold pickF
  exact cauN_El hk (N := n * k) _ (pos_lt (hwn _ ((Nat.div_lt_iff_lt_mul hk).2 ht)) (Nat.mod_lt _ hk))
 have hT := turn_El hk hE
 have hrt := rk_tr hk hk hE hT Vw_turn
 have hle : rk k k (pickF k (cauN k) w) ≤ k := rk_le
 refine Classical.byContradiction fun hne => ?_
 obtain ⟨v, ⟨j0, hj0, hv0⟩, hz⟩ := kernel hk hT (by omega : rk k k (turnF k k (pickF k (cauN k) w)) < k)
 have eqn : ∀ i, i < k → sm k (fun j => v j * Vw k (cauN k) (w i) j) = 0 := fun i hi => by
  rw [← hz i hi]
  refine sm_congr fun j hj => ?_
  rw [Vw_turn j i hj hi]
  show _ = v j * of (pickF k (cauN k) w (i * k + j))
  rw [pickF_at hj]
  rfl
 have low : ∀ i, i < k → w i < k → v (w i) = 0 := fun i hi hwi => by
  have := eqn i hi
  rw [sm_congr (g := fun j => v j * dl j (w i)) fun j hj => by rw [Vw_cau (by have := hwn i hi; omega) hj (by omega), if_pos hwi, dl_comm], sm_dl' v hwi] at this
  exact this
 have idx : ∀ x ∈ ws, ∃ i, i < k ∧ w i = x := fun x hx => by
  obtain ⟨i, hi, e⟩ := List.mem_iff_getElem.1 hx
  refine ⟨i, by omega, ?_⟩
  have := hw i (by omega)
  rw [List.getElem?_eq_getElem hi, e] at this
  exact (Option.some.inj this).symm
 obtain ⟨p, hp⟩ : ∃ p : Nat → Bool, ∀ j, p j = true ↔ v j ≠ 0 := ⟨fun j => @decide (v j ≠ 0) (Classical.propDecidable _), fun j => by simp⟩
 have hpz : ∀ j, p j = false → v j = 0 := fun j hj => Classical.byContradiction fun e => by
  have := (hp j).2 e
  rw [hj] at this
  cases this
 have ysmem : ∀ y ∈ (List.range k).filter p, y < k ∧ v y ≠ 0 := fun y hy => by
  have := List.mem_filter.1 hy
  exact ⟨List.mem_range.1 this.1, (hp y).1 this.2⟩
 have hcount : ((List.range k).filter p).length ≤ (ws.filter fun x => !decide (x < k)).length := by
  have h1 : ((List.range k).filter p ++ ws.filter fun x => decide (x < k)).length ≤ k := by
   refine nodup_le k _ ?_ fun x hx => ?_
   ·refine List.nodup_append.2 ⟨nodup_filter List.nodup_range, nodup_filter hnd, fun a ha b hb e => ?_⟩
    subst e
    have h2 := ysmem a ha
    have h3 := List.mem_filter.1 hb
    obtain ⟨i, hi, hwi⟩ := idx a h3.1
    exact h2.2 (by rw [← hwi]; exact low i hi (by rw [hwi]; exact h2.1))
   ·rcases List.mem_append.1 hx with hx | hx
    ·exact (ysmem x hx).1
    ·have := (List.mem_filter.1 hx).2
     simpa using this
  have h2 : ∀ l : List Nat, (l.filter fun x => decide (x < k)).length + (l.filter fun x => !decide (x < k)).length = l.length := by
   intro l
   induction l with
   | nil => rfl
   | cons x l ih =>
    by_cases c : x < k
    ·rw [List.filter_cons_of_pos (by simpa using c), List.filter_cons_of_neg (by simpa using c), List.length_cons, List.length_cons]; omega
    ·rw [List.filter_cons_of_neg (by simpa using c), List.filter_cons_of_pos (by simpa using c), List.length_cons, List.length_cons]; omega
  rw [List.length_append] at h1
  have := h2 ws
  omega
 have oinj : ∀ a b, a < 256 → b < 256 → of a = of b → a = b := fun a b ha hb h => of_inj ha hb h
 have all := cauchy_kernel ((List.range k).filter p) (ws.filter fun x => !decide (x < k)) v (nodup_filter List.nodup_range) (nodup_filter hnd) hcount
  (fun x hx y hy e => by
   have h1 := List.mem_filter.1 hx
   have h2 := (ysmem y hy).1
   have h3 := hlt x h1.1
   have := oinj x y (by omega) (by omega) e
   have h4 := h1.2
   simp at h4
   omega)
  (fun a ha b hb e => oinj a b (by have := (ysmem a ha).1; omega) (by have := (ysmem b hb).1; omega) e)
  (fun a ha b hb e => oinj a b (by have := hlt a (List.mem_filter.1 ha).1; omega) (by have := hlt b (List.mem_filter.1 hb).1; omega) e)
  (fun x hx => by
   have h1 := List.mem_filter.1 hx
   obtain ⟨i, hi, hwi⟩ := idx x h1.1
   have h4 := h1.2
   simp at h4
   have := eqn i hi
   rw [sm_congr (g := fun j => v j * Fe.inv (of x + of j)) fun j hj => by rw [Vw_cau (by have := hwn i hi; omega) hj (by omega), if_neg (by omega), hwi]] at this
   rw [← sm_ls p fun j hj => by rw [hpz j hj, zero_mul]]
   exact this)
 exact hv0 (all j0 (List.mem_filter.2 ⟨List.mem_range.2 hj0, (hp j0).2 hv0⟩))
end Gq
namespace Gq
open Go Gx Go.Proofs
structure Gl (base : Nat) (h : AHeap) (s : Slc) (xs : List Int) : Prop where
 st : ((s = nilS ∨ ∃ b0, s = ⟨some ⟨b0, 0, some 0⟩, 0, 0⟩) ∧ xs = []) ∨ ∃ b, Grown encI 3 h b s xs
 lt : ∀ a, s.a = some a → a.block < h.next ∧ base ≤ a.block
theorem Gl.nil (base : Nat) (h : AHeap) : Gl base h nilS [] := ⟨.inl ⟨.inl rfl, rfl⟩, fun a ha => by cases ha⟩
theorem Gl.zero {base b0 : Nat} {h : AHeap} (h1 : b0 < h.next) (h2 : base ≤ b0) : Gl base h ⟨some ⟨b0, 0, some 0⟩, 0, 0⟩ [] := ⟨.inl ⟨.inr ⟨b0, rfl⟩, rfl⟩, fun a ha => by cases ha; exact ⟨h1, h2⟩⟩
theorem Gl.row {base : Nat} {h : AHeap} {s : Slc} {xs : List Int} (G : Gl base h s xs) : Row encI h s xs := by
 rcases G.st with ⟨h1, rfl⟩ | ⟨b, g⟩
 ·rcases h1 with rfl | ⟨b0, rfl⟩
  ·exact Row.nil _ _ _ _
  ·exact Row.nil _ _ _ _
 ·exact g.row (G.lt ⟨b, 0, some 2⟩ (by rw [g.s])).1
theorem Gl.chg {base : Nat} {S : Nat → Prop} {h h' : AHeap} {s : Slc} {xs : List Int} (G : Gl base h s xs) (c : Chg S h h') (hs : ∀ a, s.a = some a → ¬ S a.block) : Gl base h' s xs := by
 refine ⟨G.st.imp id ?_, fun a ha => ⟨Nat.lt_of_lt_of_le (G.lt a ha).1 c.nx, (G.lt a ha).2⟩⟩
 rintro ⟨b, g⟩
 exact ⟨b, g.chg (G.lt ⟨b, 0, some 2⟩ (by rw [g.s])).1 c (hs ⟨b, 0, some 2⟩ (by rw [g.s]))⟩
theorem Gl.keeps {base : Nat} {h h' : AHeap} {s : Slc} {xs : List Int} (G : Gl base h s xs) (c : Keeps h h') : Gl base h' s xs := G.chg c fun _ _ f => f
theorem Gl.inM {base : Nat} {h : AHeap} {s : Slc} {xs : List Int} (G : Gl base h s xs) : InM h s xs := by
 refine ⟨G.row, fun hx => ?_⟩
 rcases G.st with ⟨_, e⟩ | ⟨b, g⟩
 ·exact absurd e hx
 ·exact ⟨b, some 2, g.s, rfl, g.blk, (G.lt ⟨b, 0, some 2⟩ (by rw [g.s])).1⟩
theorem copy_nil' {h : AHeap} {xs : List Int} (hx : xs.length ≠ 0) (hs : 16 * xs.length ≤ 281474976710656) : appendA 1 8 3 h (⟨none, 0, 0⟩ : Slc) (xs.map encI) xs.length = some (whole h.next xs.length (some 2), h.new (outB encI 3 xs)) := by
 unfold appendA
 rw [if_neg (show ¬ (0 + xs.length ≤ 0) by omega), if_pos (show 2 * (0 + xs.length) * 8 ≤ 281474976710656 ∧ 1 ≤ 8 by omega)]
 rfl
theorem Gl.append {base : Nat} {h : AHeap} {s : Slc} {xs ys : List Int} (G : Gl base h s xs) (hs : 16 * (xs.length + ys.length) ≤ 281474976710656) (hb : base ≤ h.next) :
  ∃ s' h', appendA 1 8 3 h s (ys.map encI) ys.length = some (s', h') ∧ Gl base h' s' (xs ++ ys) ∧ Chg (ofS s) h h' ∧ ∀ a, s'.a = some a → h.next ≤ a.block ∨ ofS s a.block := by
 have nx : ∀ a : Addr, a.block < h.next → a.block < (h.new (outB encI 3 ys)).next := fun a ha => by simp; omega
 rcases G.st with ⟨h1, rfl⟩ | ⟨b, g⟩
 ·by_cases e : ys = []
  ·subst e
   rcases h1 with rfl | ⟨b0, rfl⟩
   ·exact ⟨nilS, h, rfl, G, .refl _ _, fun a ha => by cases ha⟩
   ·exact ⟨_, h, append_none (enc := encI), G, .refl _ _, fun a ha => .inr ⟨a, ha, rfl⟩⟩
  ·have l0 : ys.length ≠ 0 := fun h => e (List.length_eq_zero_iff.1 h)
   have gr := Grown.of (enc := encI) (e := 3) (h := h) (xs := ys) e
   rcases h1 with rfl | ⟨b0, rfl⟩
   ·exact ⟨_, _, copy_nil' l0 (by simp at hs; omega), ⟨.inr ⟨_, gr⟩, fun a ha => by cases ha; simp; omega⟩, Chg.new _ _, fun a ha => by cases ha; simp⟩
   ·exact ⟨_, _, append_fresh (enc := encI) l0 (by simp at hs; omega) (by omega), ⟨.inr ⟨_, gr⟩, fun a ha => by cases ha; simp; omega⟩, Chg.new _ _, fun a ha => by cases ha; simp⟩
 ·have hlt := G.lt ⟨b, 0, some 2⟩ (by rw [g.s])
  by_cases e : ys = []
  ·subst e
   refine ⟨s, h, ?_, by rw [List.append_nil]; exact G, .refl _ _, fun a ha => .inr ⟨a, ha, rfl⟩⟩
   rw [g.s]
   simp [appendA]
  ·have ap := g.append (bytes := 8) (ys := ys) (fun _ => rfl) e (by omega) (by omega)
   refine ⟨_, _, ap, ⟨.inr ⟨_, rfl, by simp, fun e' => e (List.append_eq_nil_iff.1 e').2⟩, fun a ha => by cases ha; simp; omega⟩, Chg.kill_new (.inr ⟨⟨b, 0, some 2⟩, by rw [g.s], rfl⟩), fun a ha => by cases ha; simp⟩
structure GA (H0 : AHeap) (base ob : Nat) (r c : Int) (xs : List Int) (h : AHeap) (s : Slc) : Prop where
 ch : Chg (fun x => base ≤ x) H0 h
 co : h.get ob = some (.cells (mcell r c s) 50 true 0)
 lo : ob < h.next
 bo : base ≤ ob
 gl : Gl base h s xs
 no : ∀ a, s.a = some a → a.block ≠ ob
theorem GA.push {H0 : AHeap} {base ob : Nat} {r c : Int} {xs : List Int} {h : AHeap} {s : Slc} (G : GA H0 base ob r c xs h s) (x : Int) (hs : xs.length ≤ 1000000) :
  ∃ g s' h1 h2, g = h.new (.cells [.int .i64 x] 3 true 0) ∧ Gx.rdS 1 (⟨some ⟨h.next, 0, some 0⟩, 1, 1⟩ : Slc) g = some [.int .i64 x] ∧ appendA 1 8 3 g s [.int .i64 x] 1 = some (s', h1) ∧ st1 ⟨ob, 2, none⟩ (.slice s'.a s'.len s'.cap) h1 = some h2 ∧
   g.get ob = some (.cells (mcell r c s) 50 true 0) ∧ GA H0 base ob r c (xs ++ [x]) h2 s' := by
 have k1 : Keeps h (h.new (.cells [.int .i64 x] 3 true 0)) := Keeps.new h _
 have lo := G.lo
 have bo := G.bo
 have cg : (h.new (.cells [.int .i64 x] 3 true 0)).get ob = some (.cells (mcell r c s) 50 true 0) := by rw [k1.oth _ lo (fun f => f)]; exact G.co
 obtain ⟨s', h1, ap, G1, c1, n1⟩ := (G.gl.keeps k1).append (ys := [x]) (by simp; omega) (by simp; omega)
 have no' : ∀ a, s'.a = some a → a.block ≠ ob := fun a ha => by
  rcases n1 a ha with q | ⟨b, hb, e⟩
  ·simp at q; omega
  ·rw [e]; exact G.no b hb
 have co1 : h1.get ob = some (.cells (mcell r c s) 50 true 0) := by rw [c1.oth _ (by simp; omega) (fun ⟨a, ha, e⟩ => G.no a ha e.symm)]; exact cg
 have cset : Chg (· = ob) h1 (h1.set ob (.cells (mcell r c s') 50 true 0)) := Chg.set (.inr rfl)
 have l1 : ob < h1.next := by have := c1.nx; simp at this; omega
 refine ⟨_, s', h1, _, rfl, rdS_one, ap, stS2 co1, cg, ⟨?_, by simp, l1, bo, G1.chg cset no', no'⟩⟩
 refine ((G.ch.trans (Chg.keeps k1)).trans (c1.wk fun x hx => ?_)).trans (cset.wk fun x _ e => ?_)
 ·rintro ⟨a, ha, rfl⟩; exact (G.gl.lt a ha).2
 ·have e : x = ob := e
  rw [e]; exact bo
end Gq
namespace Gq
open Go Gx Go.Proofs Fe
theorem chk_mat {R C : Nat} {g : Nat → Nat} (h1 : 1 ≤ R) (h2 : R ≤ 255) (h3 : 1 ≤ C) (h4 : C ≤ 255) (hg : El (R * C) g) : chk R C (matN (R * C) g) = 0 := by
 unfold chk
 rw [if_neg (by omega), if_neg, if_pos]
 ·rw [List.all_eq_true]
  intro x hx
  obtain ⟨t, ht, e⟩ := List.mem_iff_getElem.1 hx
  have hl : (matN (R * C) g).length = R * C := mat_length _ _
  have e2 : (matN (R * C) g)[t]? = some x := by rw [List.getElem?_eq_getElem ht, e]
  unfold matN at e2
  rw [mat_get (by omega)] at e2
  cases e2
  have := hg t (by omega)
  simp [elemB]
  omega
 ·rw [show (matN (R * C) g).length = R * C from mat_length _ _]
  simp
theorem matN_ext {N : Nat} {f g : Nat → Nat} (h : ∀ t, t < N → f t = g t) : matN N f = matN N g := mat_congr fun t ht => by rw [h t ht]
def invU (n : Nat) (a : Nat → Nat) : Nat → Nat := (stepsN n n n n 0 0 a (oneN n)).2.2
theorem invP_ok {n : Nat} {a : Nat → Nat} (h1 : 1 ≤ n) (h2 : n ≤ 255) (ha : El (n * n) a) : invP n n (matN (n * n) a) = if rk n n a = n then (((n : Int), (n : Int), matN (n * n) (invU n a)), 0) else noM 40 := by
 unfold invP
 rw [if_neg (fun h => h (chk_mat h1 h2 h1 h2 ha)), if_neg (fun h => h rfl)]
 simp only [Int.toNat_natCast]
 have sc := steps_congr (R := n) h1 h1 n 0 0 (g := natOf (matN (n * n) a)) (g' := a) (u := oneN n) (u' := oneN n) (by omega) (by omega) (fun t ht => natOf_mat ht) (fun _ _ => rfl)
 have e := rk_any (R := n) (C := n) n a (oneN n)
 rw [sc.1, e]
 have hle : rk n n a ≤ n := rk_le
 by_cases c : rk n n a = n
 ·rw [if_neg (by omega), if_pos c]
  unfold invU
  rw [matN_ext fun t ht => sc.2.2 t ht]
 ·rw [if_pos (by omega), if_neg c]
theorem invU_El {n : Nat} {a : Nat → Nat} (hn : 0 < n) (ha : El (n * n) a) : El (n * n) (invU n a) := by
 obtain ⟨T, T', p, j, _, _, _, _, h4, _⟩ := gaussN (C := n) hn n 0 0 a (oneN n) (fun k => k) (by omega) ha (oneN_El n) ⟨by omega, by omega, fun k hk => by omega, fun i _ _ c hc => by omega, fun _ k hk => by omega⟩
 exact h4
structure MV (sb fb : Nat) (h : AHeap) (b R C : Nat) (s : Slc) (g : Nat → Nat) : Prop where
 cel : h.get b = some (.cells (mcell R C s) 50 true 0)
 lt : b < h.next
 nf : b ≠ fb
 inm : InM h s (matN (R * C) g)
 ap : ∀ a, s.a = some a → a.block ≠ sb ∧ a.block ≠ fb
 r1 : 1 ≤ R
 r2 : R ≤ 255
 c1 : 1 ≤ C
 c2 : C ≤ 255
 el : El (R * C) g
section
variable {k0 : Nat} {sb fb : Nat} {h h' : AHeap} {b b2 R C C2 n : Nat} {s s2 : Slc} {f g : Nat → Nat}
theorem MV.chg (m : MV sb fb h b R C s g) (c : Chg (· = fb) h h') : MV sb fb h' b R C s g :=
 ⟨by rw [c.oth _ m.lt m.nf]; exact m.cel, Nat.lt_of_lt_of_le m.lt c.nx, m.nf, m.inm.chg c fun a ha => (m.ap a ha).2, m.ap, m.r1, m.r2, m.c1, m.c2, m.el⟩
theorem MV.keeps (m : MV sb fb h b R C s g) (c : Keeps h h') : MV sb fb h' b R C s g := m.chg (Chg.keeps c)
theorem MV.len (m : MV sb fb h b R C s g) : (matN (R * C) g).length ≤ 100000 := by
 rw [show (matN (R * C) g).length = R * C from mat_length _ _]
 exact Nat.le_trans (Nat.mul_le_mul m.r2 m.c2) (by omega)
theorem MV.put {h1 : AHeap} {X : (Int × Int × Slc) × Int} {p : MRes} (S : Spc h sb fb) (O : Out h h1 X p) (c1 : Chg (· = fb) h h1) (S1 : Spc h1 sb fb) (hp : p = (((R : Int), (C : Int), matN (R * C) g), 0)) (r1 : 1 ≤ R) (r2 : R ≤ 255) (q1 : 1 ≤ C) (q2 : C ≤ 255) (el : El (R * C) g) :
  ∃ h2 s', X = (((R : Int), (C : Int), s'), 0) ∧ stL 3 ⟨h1.next, 0, none⟩ (mcell R C s') (h1.new (.cells [.int .i64 0, .int .i64 0, .slice none 0 0] 50 true 0)) = some h2 ∧ MV sb fb h2 h1.next R C s' g ∧ Spc h2 sb fb ∧ Chg (· = fb) h h2 := by
 obtain ⟨⟨r, c, s'⟩, code⟩ := X
 subst hp
 obtain rfl : r = (R : Int) := O.r
 obtain rfl : c = (C : Int) := O.c
 obtain rfl : code = 0 := O.code
 obtain ⟨h2, st2, k2, n2, b2⟩ := mvar (h := h1) (e := 50) (r := (R : Int)) (c := (C : Int)) (s := s')
 have ls := S.ls
 have lf := S.lf
 have nx := c1.nx
 exact ⟨h2, s', rfl, st2, ⟨b2, by omega, by omega, O.inm.keeps k2, fun a ha => by have := O.off a ha; exact ⟨by omega, by omega⟩, r1, r2, q1, q2, el⟩, S1.keeps k2, c1.trans (Chg.keeps k2)⟩
end
end Gq
namespace Gq
open Go Gx Go.Proofs Fe
end Gq
namespace Gq
open Go Gx Go.Proofs Fe
section
variable {k0 : Nat} {H0 : AHeap} {base N K : Nat}
end
theorem pickP_ok {R C : Nat} {a : Nat → Nat} {rows : List Int} (h1 : 1 ≤ R) (h2 : R ≤ 255) (h3 : 1 ≤ C) (h4 : C ≤ 255) (ha : El (R * C) a) (r1 : 1 ≤ rows.length) (r2 : rows.length ≤ 255) (ok : rows.all (okR R) = true) :
  pickP R C (matN (R * C) a) rows = (((rows.length : Int), (C : Int), matN (rows.length * C) (pickF C a (natOf rows))), 0) := by
 unfold pickP
 rw [if_neg (fun h => h (chk_mat h1 h2 h3 h4 ha)), if_neg (by omega), if_pos (show rows.all (okR (R : Int).toNat) = true from ok)]
 simp only [Int.toNat_natCast]
 rw [matN_ext fun t ht => ?_]
 have hd := (Nat.div_lt_iff_lt_mul h3).2 ht
 have hm := Nat.mod_lt t h3
 unfold pickF
 exact natOf_mat (pos_lt (okR_nat ok hd).2 hm)
end Gq
namespace Gq
open Go Gx Go.Proofs
theorem rone_l0 {k0 : Nat} {D : CallF} {H0 : AHeap} {B ob n : Nat} (hn1 : 0 < n) (hR : n ≤ 255) (y : Option Addr) : ∀ (m i : Nat) (h : AHeap), i + m = n →
  h.get B = some (outB encI 3 (mat (n * n) (oneP n i))) → h.get ob = some (.cells (mcell n n (whole B (n * n))) 57 true 0) → B ≠ ob → Chg (· = B) H0 h →
  ∃ h', h'.get B = some (outB encI 3 (mat (n * n) (oneF n))) ∧ h'.get ob = some (.cells (mcell n n (whole B (n * n))) 57 true 0) ∧ Chg (· = B) H0 h' ∧ h'.next = h.next ∧
   ∀ jj bot, iterK bot (m + 1) (ref04_One_l0b k0 D jj) (n : Int) y (some ⟨ob, 0, none⟩) (i : Int) h = jj y (some ⟨ob, 0, none⟩) h' := by
 intro m
 induction m with
 | zero =>
  intro i h hi hb ho hne hc
  obtain rfl : i = n := by omega
  refine ⟨h, ?_, ho, hc, rfl, fun jj bot => by rw [iterK_s, ref04_One_l0b]; exact ifn (by simp) rfl⟩
  rw [hb, mat_ext (g := oneF i) (fun t ht => by
   have : t / i < i := (Nat.div_lt_iff_lt_mul hn1).2 ht
   unfold oneP; rw [if_pos this])]
 | succ m ih =>
  intro i h hi hb ho hne hc
  have hi' : i < n := by omega
  have hN : n * n ≤ 100000 := Nat.le_trans (Nat.mul_le_mul hR hR) (by omega)
  have le : (i + 1) * n ≤ n * n := Nat.mul_le_mul_right n (by omega)
  have e0 : (i + 1) * n = i * n + n := Nat.succ_mul i n
  have hpos : i * n + i < n * n := by omega
  obtain ⟨h', b', o', c', n', e'⟩ := ih (i + 1) (h.set B (outB encI 3 (mat (n * n) (upd (oneP n i) (i * n + i) 1)))) (by omega)
   (by rw [mat_ext (fun t _ => (oneP_upd hi' t).symm)]; simp) (by rw [AHeap.get_set, if_neg (fun e => hne e.symm)]; exact ho) hne (hc.trans (Chg.set (.inr rfl)))
  refine ⟨h', b', o', c', n', fun jj bot => ?_⟩
  rw [iterK_s, ref04_One_l0b]
  refine ifp (by rw [decide_eq_true_eq]; omega) ?_
  have w2 : IntKind.wrap .i64 ((i : Int) * (n : Int)) = ((i * n : Nat) : Int) := by
   rw [show (i : Int) * (n : Int) = ((i * n : Nat) : Int) by simp]
   exact w64 _ (by omega)
  have w3 : IntKind.wrap .i64 (((i * n : Nat) : Int) + (i : Int)) = ((i * n + i : Nat) : Int) := by rw [w64 _ (by omega)]; omega
  refine bnd rfl (bnd (ldL2 ho) ?_)
  rw [w2, w3]
  refine bnd (whole_idx hpos) ?_
  refine bnd (stI_out _ hb hpos) ?_
  rw [w1 (by omega)]
  exact e' jj bot
theorem rone_spec {k0 : Nat} (hk : 1000 ≤ k0) (D : CallF) {h : AHeap} {n : Nat} (hn1 : 0 < n) (hR : n ≤ 255) :
  ∃ h' B, ref04_One k0 D n h = some ((((n : Int), (n : Int), whole B (n * n)), 0), h') ∧ MadeR h h' B (n * n) (oneF n) := by
 obtain ⟨g1, hg1⟩ : ∃ g1, g1 = h.new (.cells [.int .i64 0, .int .i64 0, .slice none 0 0] 57 true 0) := ⟨_, rfl⟩
 have k1 : Keeps h g1 := hg1 ▸ Keeps.new h _
 have n1 : g1.next = h.next + 1 := by rw [hg1]; rfl
 have y1 : g1.get h.next = some (.cells [.int .i64 0, .int .i64 0, .slice none 0 0] 57 true 0) := by rw [hg1]; simp
 have hN : n * n ≤ 100000 := Nat.le_trans (Nat.mul_le_mul hR hR) (by omega)
 obtain ⟨g2, e2, k2, n2, b2⟩ := zero_spec k0 D n n g1 hN
 obtain ⟨g3, hg3⟩ : ∃ g3, g3 = g2.new (.cells [.int .i64 0, .int .i64 0, .slice none 0 0] 57 true 0) := ⟨_, rfl⟩
 have k3 : Keeps g2 g3 := hg3 ▸ Keeps.new g2 _
 have n3 : g3.next = g2.next + 1 := by rw [hg3]; rfl
 have o3 : g3.get g2.next = some (.cells [.int .i64 0, .int .i64 0, .slice none 0 0] 57 true 0) := by rw [hg3]; simp
 obtain ⟨g4, hg4⟩ : ∃ g4, g4 = g3.set g2.next (.cells (mcell n n (whole (g1.next + 1) (n * n))) 57 true 0) := ⟨_, rfl⟩
 have n4 : g4.next = g3.next := by rw [hg4]; rfl
 have st3 : stL 3 ⟨g2.next, 0, none⟩ (mcell n n (whole (g1.next + 1) (n * n))) g3 = some g4 := by rw [hg4]; exact stM3 o3 rfl
 have k04 : Keeps h g4 := ((k1.trans k2).trans k3).beh (T := (· = g2.next)) (hg4 ▸ Chg.set (.inr rfl)) fun x hx e => by
  have e : x = g2.next := e
  omega
 have b4 : g4.get (g1.next + 1) = some (outB encI 3 (mat (n * n) fun _ => 0)) := by
  rw [hg4, AHeap.get_set, if_neg (by omega), k3.oth _ (by omega) (fun f => f)]; exact b2
 have y4 : g4.get h.next = some (.cells [.int .i64 0, .int .i64 0, .slice none 0 0] 57 true 0) := by
  rw [hg4, AHeap.get_set, if_neg (by omega), k3.oth _ (by omega) (fun f => f), k2.oth _ (by omega) (fun f => f)]; exact y1
 obtain ⟨g5, b5, o5, c5, n5, e5⟩ := rone_l0 (k0 := k0) (D := D) (H0 := g4) (B := g1.next + 1) (ob := g2.next) hn1 hR (some ⟨h.next, 0, none⟩) n 0 g4 (by omega)
  (by rw [mat_ext (g := fun _ => 0) (fun t ht => by unfold oneP; rw [if_neg (Nat.not_lt_zero _)])]; exact b4) (by rw [hg4]; simp) (by omega) (.refl _ _)
 have y5 : g5.get h.next = some (.cells [.int .i64 0, .int .i64 0, .slice none 0 0] 57 true 0) := by
  rw [c5.oth h.next (by omega) (by omega)]; exact y4
 refine ⟨g5.set h.next (.cells (mcell n n (whole (g1.next + 1) (n * n))) 57 true 0), g1.next + 1, ?_, ?_⟩
 ·unfold ref04_One
  dsimp only
  rw [← hg1]
  refine jn ?_
  refine ifn (by rw [decide_eq_true_eq]; omega) ?_
  refine ifn (by rw [decide_eq_true_eq]; omega) ?_
  refine bnd e2 ?_
  dsimp only
  rw [← hg3]
  refine bnd st3 ?_
  refine jn ?_
  unfold ref04_One_l0
  obtain ⟨bot, hbot⟩ := iterK_of (fun _ _ _ _ _ => none) (ref04_One_l0b k0 D _) (show n + 1 ≤ k0 by omega)
  rw [hbot]
  refine (e5 _ bot).trans ?_
  refine bnd rfl (bnd (ldM3 o5) (bnd (decM3 _ _ _) ?_))
  refine bnd rfl ?_
  refine bnd (stM3 (r := n) (c := n) (s := whole (g1.next + 1) (n * n)) y5 rfl) ?_
  refine bnd rfl ?_
  refine bnd (ldM3 (r := n) (c := n) (s := whole (g1.next + 1) (n * n)) (e := 57) (rw' := true) (fz := 0) (by simp)) ?_
  exact bnd (decM3 _ _ _) rfl
 ·refine ⟨by rw [AHeap.get_set, if_neg (by omega)]; exact b5, by simp; omega, by omega, ?_⟩
  have c1 : Keeps h g5 := k04.beh c5 fun x hx e => by omega
  exact c1.beh (T := (· = h.next)) (.set (.inr rfl)) fun x hx e => by
   have e : x = h.next := e
   omega
theorem rcheck_l0 (K : Nat) (D : CallF) (j) {s : Slc} {xs : List Int} {h : AHeap} {r c : Int} {ob : Nat} (b : h.get ob = some (.cells (mcell r c s) 57 true 0)) (R : Row encI h s xs) (hl : xs.length < 9223372036854775807) : ∀ (m i : Nat), i + m = xs.length → ∀ bot,
  iterK bot (m + 1) (ref04_Check_l0b K D j) (some ⟨ob, 0, none⟩) (i : Int) h = if (xs.drop i).all elemB = true then j h else some (1, h)
 | 0, i, hi, bot => by
  rw [iterK_s, ref04_Check_l0b]
  refine bnd rfl (bnd (ldL2 b) ?_)
  refine ifn (by rw [decide_eq_true_eq, R.1]; omega) ?_
  rw [List.drop_eq_nil_of_le (by omega)]
  rfl
 | m + 1, i, hi, bot => by
  obtain ⟨x, hx⟩ := isome (l := xs) (i := i) (by omega)
  obtain ⟨q, hq, hld⟩ := R.ldI hx
  have ih := rcheck_l0 K D j b R hl m (i + 1) (by omega) bot
  rw [iterK_s, ref04_Check_l0b]
  refine bnd rfl (bnd (ldL2 b) ?_)
  refine ifp (by rw [decide_eq_true_eq, R.1]; omega) (jn ?_)
  refine bnd rfl (bnd (ldL2 b) (bnd hq (bnd hld ?_)))
  rw [dropc hx]
  simp only [List.all_cons, elemB]
  by_cases c1 : x < 0
  ·refine ifp (by rw [decide_eq_true_eq]; exact c1) (ifp trivial ?_)
   simp [c1]
  ·refine ifn (by rw [decide_eq_true_eq]; exact c1) ?_
   refine bnd rfl (bnd (ldL2 b) (bnd hq (bnd hld ?_)))
   by_cases c2 : x ≥ 256
   ·refine ifp (by rw [decide_eq_true_eq]; omega) ?_
    simp [c1, c2]
   ·refine ifn (by rw [decide_eq_true_eq]; omega) ?_
    rw [w1 (by omega), ih]
    simp [c1, c2, elemB]
theorem rcheckM_spec {k0 : Nat} (D : CallF) {h : AHeap} {r c : Int} {s : Slc} {xs : List Int} (R : Row encI h s xs) (hk : xs.length < k0) (hl : xs.length < 9223372036854775807) :
  ∃ h', ref04_Check k0 D (r, c, s) h = some (chk r c xs, h') ∧ Keeps h h' := by
 obtain ⟨g1, hg1⟩ : ∃ g1, g1 = h.new (.cells [.int .i64 r, .int .i64 c, .slice s.a s.len s.cap] 57 true 0) := ⟨_, rfl⟩
 have k1 : Keeps h g1 := hg1 ▸ Keeps.new h _
 have b1 : g1.get h.next = some (.cells (mcell r c s) 57 true 0) := by rw [hg1]; simp [mcell]
 refine ⟨g1, ?_, k1⟩
 unfold ref04_Check
 dsimp only
 rw [← hg1]
 refine jn ?_
 have i0 := ldI0 (sp := none) b1
 have i1 := ldI1 (sp := none) b1
 have i2 := ldL2 (sp := none) b1
 unfold chk
 have fin : r ≥ 1 → c ≥ 1 → r ≤ 255 → c ≤ 255 → ((some (⟨h.next, 0, none⟩ : Addr)).bind fun p6 =>
   (ldL (⟨p6.block, p6.off + 2, none⟩ : Addr) g1).bind fun x7 => (some (⟨h.next, 0, none⟩ : Addr)).bind fun p8 => (ldI .i64 (⟨p8.block, p8.off + 0, none⟩ : Addr) g1).bind fun x9 =>
   (some (⟨h.next, 0, none⟩ : Addr)).bind fun p10 => (ldI .i64 (⟨p10.block, p10.off + 1, none⟩ : Addr) g1).bind fun x11 =>
   (if ((x7.len : Int) != (IntKind.wrap .i64 (x9 * x11))) = true then some (4, g1) else
   joinK (fun (h12 : AHeap) => some (0, h12)) fun j13 => ref04_Check_l0 k0 D j13 (some (⟨h.next, 0, none⟩ : Addr)) 0 g1)) =
   some (if (xs.length : Int) ≠ r * c then 4 else if xs.all elemB then 0 else 1, g1) := fun a1 a2 a3 a4 => by
  refine bnd rfl (bnd i2 (bnd rfl (bnd i0 (bnd rfl (bnd i1 ?_)))))
  have m1 : r * c ≤ 255 * 255 := Int.mul_le_mul a3 a4 (by omega) (by omega)
  have m2 : 0 ≤ r * c := Int.mul_nonneg (by omega) (by omega)
  rw [w64 _ (by omega), R.1]
  by_cases e : (xs.length : Int) = r * c
  ·refine ifn (by simp [e]) ?_
   refine jn ?_
   unfold ref04_Check_l0
   obtain ⟨bot, hbot⟩ := iterK_of (fun _ _ _ => none) (ref04_Check_l0b k0 D _) (show xs.length + 1 ≤ k0 by omega)
   rw [hbot]
   refine (rcheck_l0 k0 D _ b1 (R.keeps k1) hl xs.length 0 (by omega) bot).trans ?_
   rw [List.drop_zero, if_neg (show ¬ ((xs.length : Int) ≠ r * c) from fun x => x e)]
   split <;> rfl
  ·refine ifp (by simpa using e) ?_
   rw [if_pos e]
 refine bnd i0 ?_
 by_cases a1 : r < 1
 ·refine ifp (by rw [decide_eq_true_eq]; omega) (ifp rfl ?_)
  rw [if_pos (.inl a1)]
 ·refine ifn (by rw [decide_eq_true_eq]; omega) (bnd i0 ?_)
  by_cases a3 : r > 255
  ·refine ifp (by rw [decide_eq_true_eq]; omega) (ifp rfl ?_)
   rw [if_pos (.inr (.inr (.inl a3)))]
  ·refine ifn (by rw [decide_eq_true_eq]; omega) (bnd i1 ?_)
   by_cases a2 : c < 1
   ·refine ifp (by rw [decide_eq_true_eq]; omega) (ifp rfl ?_)
    rw [if_pos (.inr (.inl a2))]
   ·refine ifn (by rw [decide_eq_true_eq]; omega) (bnd i1 ?_)
    by_cases a4 : c > 255
    ·refine ifp (by rw [decide_eq_true_eq]; omega) ?_
     rw [if_pos (.inr (.inr (.inr a4)))]
    ·refine ifn (by rw [decide_eq_true_eq]; omega) ?_
     rw [if_neg (by omega)]
     exact fin (by omega) (by omega) (by omega) (by omega)
theorem at_row (k : Nat) (D : CallF) {h : AHeap} {s : Slc} {xs : List Int} (R : Row encI h s xs) {r : Int} {C i j : Nat} {x : Int} (hx : xs[i * C + j]? = some x) (hb : i * C + j < 9223372036854775807) :
  ∃ h', ref04_M_At k D (r, (C : Int), s) (i : Int) (j : Int) h = some (x, h') ∧ Keeps h h' := by
 obtain ⟨g1, hg1⟩ : ∃ g1, g1 = h.new (.cells [.int .i64 r, .int .i64 C, .slice s.a s.len s.cap] 57 true 0) := ⟨_, rfl⟩
 have k1 : Keeps h g1 := hg1 ▸ Keeps.new h _
 have b1 : g1.get h.next = some (.cells (mcell r C s) 57 true 0) := by rw [hg1]; simp [mcell]
 obtain ⟨q, hq, hld⟩ := (R.keeps k1).ldI hx
 refine ⟨g1, ?_, k1⟩
 unfold ref04_M_At
 dsimp only
 rw [← hg1]
 with_reducible repeat' first | refine sbn ?_ | refine bnd (ldM3 (by assumption)) ?_ | refine bnd (decM3 _ _ _) ?_ | refine bnd (ldI0 (by assumption)) ?_ | refine bnd (ldI1 (by assumption)) ?_ | refine bnd (ldL2 (by assumption)) ?_ | refine jn ?_ | refine gp1 ?_ ?_ | refine gp2 ?_ ?_ ?_ | refine gp3 ?_ ?_ ?_ ?_ | refine bnd (ldZ0 (by assumption)) ?_ | refine bnd (ldZ1 (by assumption)) ?_ | refine bnd (ldZ2 (by assumption)) ?_ | rfl
 rw [wij hb]
 exact bnd hq (bnd hld rfl)
section
variable {H0 : AHeap} {B ob R C : Nat} {sp : Option Nat} {g g' : Nat → Nat} {h h' : AHeap}
theorem SI.at (s : SI H0 B ob R C sp g h) (k : Nat) (D : CallF) {i j : Nat} (hi : i < R) (hj : j < C) (hs : R * C ≤ 100000) :
  ∃ h', ref04_M_At k D (R, C, whole B (R * C) sp) (i : Int) (j : Int) h = some ((g (i * C + j) : Int), h') ∧ SI H0 B ob R C sp g h' ∧ Keeps h h' := by
 have := le_row (c := C) hi
 obtain ⟨h', e, k'⟩ := at_row k D (r := R) (C := C) (i := i) (j := j) (s.m.row (sp := sp)) (by unfold matN; exact mat_get (by omega)) (by omega)
 exact ⟨h', e, s.keeps k', k'⟩
end
theorem mrswap_spec {k0 : Nat} (hk : 1000 ≤ k0) (D : CallF) {h : AHeap} {B R C i k : Nat} {sp : Option Nat} {g : Nat → Nat} (m : Mx h B (R * C) g) (hc0 : 0 < C) (hc : C ≤ 255) (hs : R * C ≤ 100000) (hi : i < R) (hk' : k < R) :
  ∃ h', ref04_M_swap k0 D (R, C, whole B (R * C) sp) i k h = some ((), h') ∧ Mx h' B (R * C) (swapR C i k g) ∧ Chg (· = B) h h' := by
 have pi := le_row (c := C) hi
 have pk := le_row (c := C) hk'
 have go : ∀ m' j (h3 : AHeap), j + m' = C → SI h B h.next R C sp (swapJ C i k j g) h3 → ∃ h', SI h B h.next R C sp (swapR C i k g) h' ∧ ∀ bot, iterK bot (m' + 1) (ref04_M_swap_l0b k0 D) (i : Int) (k : Int) (some ⟨h.next, 0, none⟩) (j : Int) h3 = some ((), h') := by
  intro m'
  induction m' with
  | zero =>
   intro j h3 hj S
   obtain rfl : j = C := by omega
   refine ⟨h3, S.congr fun t _ => swapJ_all hc0 g t, fun bot => ?_⟩
   have c0 := S.c
   rw [iterK_s, ref04_M_swap_l0b]
   with_reducible repeat' first | refine sbn ?_ | refine bnd (ldM3 (by assumption)) ?_ | refine bnd (decM3 _ _ _) ?_ | refine bnd (ldI0 (by assumption)) ?_ | refine bnd (ldI1 (by assumption)) ?_ | refine bnd (ldL2 (by assumption)) ?_ | refine jn ?_ | refine gp1 ?_ ?_ | refine gp2 ?_ ?_ ?_ | refine gp3 ?_ ?_ ?_ ?_ | refine bnd (ldZ0 (by assumption)) ?_ | refine bnd (ldZ1 (by assumption)) ?_ | refine bnd (ldZ2 (by assumption)) ?_ | rfl
   exact ifn (by rw [decide_eq_true_eq]; omega) rfl
  | succ m' ih =>
   intro j h3 hj S
   have hj' : j < C := by omega
   obtain ⟨h4, e4, S4, _⟩ := S.at k0 D hi hj' hs
   obtain ⟨h5, e5, S5, _⟩ := S4.at k0 D hk' hj' hs
   rw [swapJ_i hj'] at e4
   rw [swapJ_k hj'] at e5
   obtain ⟨h6, e6, S6⟩ := S5.wr (show i * C + j < R * C by omega) (m.el (k * C + j) (by omega))
   obtain ⟨h7, e7, S7⟩ := S6.wr (show k * C + j < R * C by omega) (m.el (i * C + j) (by omega))
   obtain ⟨h', S', e'⟩ := ih (j + 1) h7 (by omega) (S7.congr fun t _ => swap_step hj' g)
   refine ⟨h', S', fun bot => ?_⟩
   have c0 := S.c
   have c4 := S4.c
   have c5 := S5.c
   have c6 := S6.c
   rw [iterK_s, ref04_M_swap_l0b]
   with_reducible repeat' first | refine sbn ?_ | refine bnd (ldM3 (by assumption)) ?_ | refine bnd (decM3 _ _ _) ?_ | refine bnd (ldI0 (by assumption)) ?_ | refine bnd (ldI1 (by assumption)) ?_ | refine bnd (ldL2 (by assumption)) ?_ | refine jn ?_ | refine gp1 ?_ ?_ | refine gp2 ?_ ?_ ?_ | refine gp3 ?_ ?_ ?_ ?_ | refine bnd (ldZ0 (by assumption)) ?_ | refine bnd (ldZ1 (by assumption)) ?_ | refine bnd (ldZ2 (by assumption)) ?_ | rfl
   refine ifp (by rw [decide_eq_true_eq]; omega) ?_
   with_reducible repeat' first | refine sbn ?_ | refine bnd (ldM3 (by assumption)) ?_ | refine bnd (decM3 _ _ _) ?_ | refine bnd (ldI0 (by assumption)) ?_ | refine bnd (ldI1 (by assumption)) ?_ | refine bnd (ldL2 (by assumption)) ?_ | refine jn ?_ | refine gp1 ?_ ?_ | refine gp2 ?_ ?_ ?_ | refine gp3 ?_ ?_ ?_ ?_ | refine bnd (ldZ0 (by assumption)) ?_ | refine bnd (ldZ1 (by assumption)) ?_ | refine bnd (ldZ2 (by assumption)) ?_ | rfl
   refine bnd e4 ?_
   with_reducible repeat' first | refine sbn ?_ | refine bnd (ldM3 (by assumption)) ?_ | refine bnd (decM3 _ _ _) ?_ | refine bnd (ldI0 (by assumption)) ?_ | refine bnd (ldI1 (by assumption)) ?_ | refine bnd (ldL2 (by assumption)) ?_ | refine jn ?_ | refine gp1 ?_ ?_ | refine gp2 ?_ ?_ ?_ | refine gp3 ?_ ?_ ?_ ?_ | refine bnd (ldZ0 (by assumption)) ?_ | refine bnd (ldZ1 (by assumption)) ?_ | refine bnd (ldZ2 (by assumption)) ?_ | rfl
   refine bnd e5 ?_
   with_reducible repeat' first | refine sbn ?_ | refine bnd (ldM3 (by assumption)) ?_ | refine bnd (decM3 _ _ _) ?_ | refine bnd (ldI0 (by assumption)) ?_ | refine bnd (ldI1 (by assumption)) ?_ | refine bnd (ldL2 (by assumption)) ?_ | refine jn ?_ | refine gp1 ?_ ?_ | refine gp2 ?_ ?_ ?_ | refine gp3 ?_ ?_ ?_ ?_ | refine bnd (ldZ0 (by assumption)) ?_ | refine bnd (ldZ1 (by assumption)) ?_ | refine bnd (ldZ2 (by assumption)) ?_ | rfl
   refine bnd (widx (C := C) (i := i) (show i * C + j < R * C by omega) hs) (bnd e6 ?_)
   with_reducible repeat' first | refine sbn ?_ | refine bnd (ldM3 (by assumption)) ?_ | refine bnd (decM3 _ _ _) ?_ | refine bnd (ldI0 (by assumption)) ?_ | refine bnd (ldI1 (by assumption)) ?_ | refine bnd (ldL2 (by assumption)) ?_ | refine jn ?_ | refine gp1 ?_ ?_ | refine gp2 ?_ ?_ ?_ | refine gp3 ?_ ?_ ?_ ?_ | refine bnd (ldZ0 (by assumption)) ?_ | refine bnd (ldZ1 (by assumption)) ?_ | refine bnd (ldZ2 (by assumption)) ?_ | rfl
   refine bnd (widx (C := C) (i := k) (show k * C + j < R * C by omega) hs) (bnd e7 ?_)
   rw [w1 (by omega)]
   exact e' bot
 obtain ⟨g1, hg1, S1⟩ := SI.mk0 (sp := sp) m
 obtain ⟨h', S', e'⟩ := go C 0 g1 (by omega) (S1.congr fun t _ => by unfold swapJ; rw [if_neg (by omega)])
 refine ⟨h', ?_, S'.m, S'.ch⟩
 unfold ref04_M_swap
 show ref04_M_swap_l0 k0 D i k _ 0 (h.new (.cells (mcell R C (whole B (R * C) sp)) 57 true 0)) = _
 rw [← hg1]
 unfold ref04_M_swap_l0
 obtain ⟨bot, hbot⟩ := iterK_of (fun _ _ _ _ _ => none) (ref04_M_swap_l0b k0 D) (show C + 1 ≤ k0 by omega)
 rw [hbot]
 exact e' bot
theorem mrscale_spec {k0 : Nat} (hk : 1000 ≤ k0) (D : CallF) {h : AHeap} {B R C i by' : Nat} {sp : Option Nat} {g : Nat → Nat} (m : Mx h B (R * C) g) (hc0 : 0 < C) (hc : C ≤ 255) (hs : R * C ≤ 100000) (hi : i < R) (hb : by' < 256) :
  ∃ h', ref04_M_scale k0 D (R, C, whole B (R * C) sp) i (by' : Int) h = some ((), h') ∧ Mx h' B (R * C) (sclR C i by' g) ∧ Chg (· = B) h h' := by
 have pi := le_row (c := C) hi
 have go : ∀ m' j (h3 : AHeap), j + m' = C → SI h B h.next R C sp (fun t => if t / C = i ∧ t % C < j then mulT (g t) by' else g t) h3 → ∃ h', SI h B h.next R C sp (sclR C i by' g) h' ∧ ∀ bot, iterK bot (m' + 1) (ref04_M_scale_l0b k0 D) (i : Int) (by' : Int) (some ⟨h.next, 0, none⟩) (j : Int) h3 = some ((), h') := by
  intro m'
  induction m' with
  | zero =>
   intro j h3 hj S
   obtain rfl : j = C := by omega
   refine ⟨h3, S.congr fun t _ => ?_, fun bot => ?_⟩
   ·unfold sclR
    have : t % j < j := Nat.mod_lt _ (by omega)
    by_cases d : t / j = i
    ·rw [if_pos ⟨d, this⟩, if_pos d]
    ·rw [if_neg (fun h => d h.1), if_neg d]
   have c0 := S.c
   rw [iterK_s, ref04_M_scale_l0b]
   with_reducible repeat' first | refine sbn ?_ | refine bnd (ldM3 (by assumption)) ?_ | refine bnd (decM3 _ _ _) ?_ | refine bnd (ldI0 (by assumption)) ?_ | refine bnd (ldI1 (by assumption)) ?_ | refine bnd (ldL2 (by assumption)) ?_ | refine jn ?_ | refine gp1 ?_ ?_ | refine gp2 ?_ ?_ ?_ | refine gp3 ?_ ?_ ?_ ?_ | refine bnd (ldZ0 (by assumption)) ?_ | refine bnd (ldZ1 (by assumption)) ?_ | refine bnd (ldZ2 (by assumption)) ?_ | rfl
   exact ifn (by rw [decide_eq_true_eq]; omega) rfl
  | succ m' ih =>
   intro j h3 hj S
   have hj' : j < C := by omega
   obtain ⟨h4, e4, S4, _⟩ := S.at k0 D hi hj' hs
   rw [if_neg (fun h => by have := h.2; rw [pos_mod hj'] at this; omega)] at e4
   have e5 := rtimes_spec (k := k0) (by omega) D (m.el (i * C + j) (by omega)) hb h4
   obtain ⟨h6, e6, S6⟩ := S4.wr (show i * C + j < R * C by omega) (mulT_lt (g (i * C + j)) by')
   obtain ⟨h', S', e'⟩ := ih (j + 1) h6 (by omega) (S6.congr fun t _ => jstep (i := i) (t := t) hj' g (fun t => mulT (g t) by'))
   refine ⟨h', S', fun bot => ?_⟩
   have c0 := S.c
   have c4 := S4.c
   rw [iterK_s, ref04_M_scale_l0b]
   with_reducible repeat' first | refine sbn ?_ | refine bnd (ldM3 (by assumption)) ?_ | refine bnd (decM3 _ _ _) ?_ | refine bnd (ldI0 (by assumption)) ?_ | refine bnd (ldI1 (by assumption)) ?_ | refine bnd (ldL2 (by assumption)) ?_ | refine jn ?_ | refine gp1 ?_ ?_ | refine gp2 ?_ ?_ ?_ | refine gp3 ?_ ?_ ?_ ?_ | refine bnd (ldZ0 (by assumption)) ?_ | refine bnd (ldZ1 (by assumption)) ?_ | refine bnd (ldZ2 (by assumption)) ?_ | rfl
   refine ifp (by rw [decide_eq_true_eq]; omega) ?_
   with_reducible repeat' first | refine sbn ?_ | refine bnd (ldM3 (by assumption)) ?_ | refine bnd (decM3 _ _ _) ?_ | refine bnd (ldI0 (by assumption)) ?_ | refine bnd (ldI1 (by assumption)) ?_ | refine bnd (ldL2 (by assumption)) ?_ | refine jn ?_ | refine gp1 ?_ ?_ | refine gp2 ?_ ?_ ?_ | refine gp3 ?_ ?_ ?_ ?_ | refine bnd (ldZ0 (by assumption)) ?_ | refine bnd (ldZ1 (by assumption)) ?_ | refine bnd (ldZ2 (by assumption)) ?_ | rfl
   refine bnd e4 (bnd e5 ?_)
   with_reducible repeat' first | refine sbn ?_ | refine bnd (ldM3 (by assumption)) ?_ | refine bnd (decM3 _ _ _) ?_ | refine bnd (ldI0 (by assumption)) ?_ | refine bnd (ldI1 (by assumption)) ?_ | refine bnd (ldL2 (by assumption)) ?_ | refine jn ?_ | refine gp1 ?_ ?_ | refine gp2 ?_ ?_ ?_ | refine gp3 ?_ ?_ ?_ ?_ | refine bnd (ldZ0 (by assumption)) ?_ | refine bnd (ldZ1 (by assumption)) ?_ | refine bnd (ldZ2 (by assumption)) ?_ | rfl
   refine bnd (widx (C := C) (i := i) (show i * C + j < R * C by omega) hs) (bnd e6 ?_)
   rw [w1 (by omega)]
   exact e' bot
 obtain ⟨g1, hg1, S1⟩ := SI.mk0 (sp := sp) m
 obtain ⟨h', S', e'⟩ := go C 0 g1 (by omega) (S1.congr fun t _ => by rw [if_neg (fun h => by have := h.2; omega)])
 refine ⟨h', ?_, S'.m, S'.ch⟩
 unfold ref04_M_scale
 show ref04_M_scale_l0 k0 D i by' _ 0 (h.new (.cells (mcell R C (whole B (R * C) sp)) 57 true 0)) = _
 rw [← hg1]
 unfold ref04_M_scale_l0
 obtain ⟨bot, hbot⟩ := iterK_of (fun _ _ _ _ _ => none) (ref04_M_scale_l0b k0 D) (show C + 1 ≤ k0 by omega)
 rw [hbot]
 exact e' bot
theorem mradd_spec {k0 : Nat} (hk : 1000 ≤ k0) (D : CallF) {h : AHeap} {B R C i k by' : Nat} {sp : Option Nat} {g : Nat → Nat} (m : Mx h B (R * C) g) (hc0 : 0 < C) (hc : C ≤ 255) (hs : R * C ≤ 100000) (hi : i < R) (hk' : k < R) (hik : i ≠ k) (hb : by' < 256) :
  ∃ h', ref04_M_add k0 D (R, C, whole B (R * C) sp) i k (by' : Int) h = some ((), h') ∧ Mx h' B (R * C) (addR C i by' (fun x => g (k * C + x)) g) ∧ Chg (· = B) h h' := by
 have pi := le_row (c := C) hi
 have pk := le_row (c := C) hk'
 have go : ∀ m' j (h3 : AHeap), j + m' = C → SI h B h.next R C sp (addJ C i by' j (fun x => g (k * C + x)) g) h3 → ∃ h', SI h B h.next R C sp (addR C i by' (fun x => g (k * C + x)) g) h' ∧ ∀ bot, iterK bot (m' + 1) (ref04_M_add_l0b k0 D) (i : Int) (k : Int) (by' : Int) (some ⟨h.next, 0, none⟩) (j : Int) h3 = some ((), h') := by
  intro m'
  induction m' with
  | zero =>
   intro j h3 hj S
   obtain rfl : j = C := by omega
   refine ⟨h3, S.congr fun t _ => ?_, fun bot => ?_⟩
   ·unfold addJ addR
    have : t % j < j := Nat.mod_lt _ (by omega)
    by_cases d : t / j = i
    ·rw [if_pos ⟨d, this⟩, if_pos d]
    ·rw [if_neg (fun h => d h.1), if_neg d]
   have c0 := S.c
   rw [iterK_s, ref04_M_add_l0b]
   with_reducible repeat' first | refine sbn ?_ | refine bnd (ldM3 (by assumption)) ?_ | refine bnd (decM3 _ _ _) ?_ | refine bnd (ldI0 (by assumption)) ?_ | refine bnd (ldI1 (by assumption)) ?_ | refine bnd (ldL2 (by assumption)) ?_ | refine jn ?_ | refine gp1 ?_ ?_ | refine gp2 ?_ ?_ ?_ | refine gp3 ?_ ?_ ?_ ?_ | refine bnd (ldZ0 (by assumption)) ?_ | refine bnd (ldZ1 (by assumption)) ?_ | refine bnd (ldZ2 (by assumption)) ?_ | rfl
   exact ifn (by rw [decide_eq_true_eq]; omega) rfl
  | succ m' ih =>
   intro j h3 hj S
   have hj' : j < C := by omega
   obtain ⟨h4, e4, S4, _⟩ := S.at k0 D hi hj' hs
   obtain ⟨h5, e5, S5, _⟩ := S4.at k0 D hk' hj' hs
   have ge : addJ C i by' j (fun x => g (k * C + x)) g (i * C + j) = g (i * C + j) := by
    unfold addJ; rw [if_neg (fun h => by have := h.2; rw [pos_mod hj'] at this; omega)]
   have gk : addJ C i by' j (fun x => g (k * C + x)) g (k * C + j) = g (k * C + j) := by
    unfold addJ; rw [pos_div hj', if_neg (fun h => hik h.1.symm)]
   rw [ge] at e4
   rw [gk] at e5
   have e6 := rtimes_spec (k := k0) (by omega) D (m.el (k * C + j) (by omega)) hb h5
   obtain ⟨h6, e7, S6⟩ := S5.wr (show i * C + j < R * C by omega) (xor_mul_lt (b := g (k * C + j)) (c := by') (m.el (i * C + j) (by omega)))
   have new : ∀ t, t < R * C → updN (addJ C i by' j (fun x => g (k * C + x)) g) (i * C + j) (g (i * C + j) ^^^ mulT (g (k * C + j)) by') t = addJ C i by' (j + 1) (fun x => g (k * C + x)) g t := fun t _ => by
    have := jstep (i := i) (t := t) hj' g (fun t => g t ^^^ mulT (g (k * C + t % C)) by')
    rw [pos_mod hj'] at this
    exact this
   obtain ⟨h', S', e'⟩ := ih (j + 1) h6 (by omega) (S6.congr new)
   refine ⟨h', S', fun bot => ?_⟩
   have c0 := S.c
   have c4 := S4.c
   have c5 := S5.c
   rw [iterK_s, ref04_M_add_l0b]
   with_reducible repeat' first | refine sbn ?_ | refine bnd (ldM3 (by assumption)) ?_ | refine bnd (decM3 _ _ _) ?_ | refine bnd (ldI0 (by assumption)) ?_ | refine bnd (ldI1 (by assumption)) ?_ | refine bnd (ldL2 (by assumption)) ?_ | refine jn ?_ | refine gp1 ?_ ?_ | refine gp2 ?_ ?_ ?_ | refine gp3 ?_ ?_ ?_ ?_ | refine bnd (ldZ0 (by assumption)) ?_ | refine bnd (ldZ1 (by assumption)) ?_ | refine bnd (ldZ2 (by assumption)) ?_ | rfl
   refine ifp (by rw [decide_eq_true_eq]; omega) ?_
   with_reducible repeat' first | refine sbn ?_ | refine bnd (ldM3 (by assumption)) ?_ | refine bnd (decM3 _ _ _) ?_ | refine bnd (ldI0 (by assumption)) ?_ | refine bnd (ldI1 (by assumption)) ?_ | refine bnd (ldL2 (by assumption)) ?_ | refine jn ?_ | refine gp1 ?_ ?_ | refine gp2 ?_ ?_ ?_ | refine gp3 ?_ ?_ ?_ ?_ | refine bnd (ldZ0 (by assumption)) ?_ | refine bnd (ldZ1 (by assumption)) ?_ | refine bnd (ldZ2 (by assumption)) ?_ | rfl
   refine bnd e4 ?_
   with_reducible repeat' first | refine sbn ?_ | refine bnd (ldM3 (by assumption)) ?_ | refine bnd (decM3 _ _ _) ?_ | refine bnd (ldI0 (by assumption)) ?_ | refine bnd (ldI1 (by assumption)) ?_ | refine bnd (ldL2 (by assumption)) ?_ | refine jn ?_ | refine gp1 ?_ ?_ | refine gp2 ?_ ?_ ?_ | refine gp3 ?_ ?_ ?_ ?_ | refine bnd (ldZ0 (by assumption)) ?_ | refine bnd (ldZ1 (by assumption)) ?_ | refine bnd (ldZ2 (by assumption)) ?_ | rfl
   refine bnd e5 (bnd e6 ?_)
   with_reducible repeat' first | refine sbn ?_ | refine bnd (ldM3 (by assumption)) ?_ | refine bnd (decM3 _ _ _) ?_ | refine bnd (ldI0 (by assumption)) ?_ | refine bnd (ldI1 (by assumption)) ?_ | refine bnd (ldL2 (by assumption)) ?_ | refine jn ?_ | refine gp1 ?_ ?_ | refine gp2 ?_ ?_ ?_ | refine gp3 ?_ ?_ ?_ ?_ | refine bnd (ldZ0 (by assumption)) ?_ | refine bnd (ldZ1 (by assumption)) ?_ | refine bnd (ldZ2 (by assumption)) ?_ | rfl
   refine bnd (widx (C := C) (i := i) (show i * C + j < R * C by omega) hs) ?_
   dsimp only
   rw [xor64' (m.el _ (by omega)) (mulT_lt _ _)]
   refine bnd e7 ?_
   rw [w1 (by omega)]
   exact e' bot
 obtain ⟨g1, hg1, S1⟩ := SI.mk0 (sp := sp) m
 obtain ⟨h', S', e'⟩ := go C 0 g1 (by omega) (S1.congr fun t _ => by unfold addJ; rw [if_neg (fun h => by have := h.2; omega)])
 refine ⟨h', ?_, S'.m, S'.ch⟩
 unfold ref04_M_add
 show ref04_M_add_l0 k0 D i k by' _ 0 (h.new (.cells (mcell R C (whole B (R * C) sp)) 57 true 0)) = _
 rw [← hg1]
 unfold ref04_M_add_l0
 obtain ⟨bot, hbot⟩ := iterK_of (fun _ _ _ _ _ _ => none) (ref04_M_add_l0b k0 D) (show C + 1 ≤ k0 by omega)
 rw [hbot]
 exact e' bot
theorem mrlead_spec {k0 : Nat} (hk : 1000 ≤ k0) (D : CallF) {h : AHeap} {B R C i j : Nat} {sp : Option Nat} {g : Nat → Nat} (m : Mx h B (R * C) g) (hj : j < C) (hR : R ≤ 255) (hs : R * C ≤ 100000) (hi : i ≤ R) :
  ∃ h', ref04_M_lead k0 D (R, C, whole B (R * C) sp) i j h = some (if leadN C j g (R - i) i = R then -1 else (leadN C j g (R - i) i : Int), h') ∧ Keeps h h' := by
 have go : ∀ m' i (h3 : AHeap), i + m' = R → SI h B h.next R C sp g h3 → ∃ h', SI h B h.next R C sp g h' ∧ Keeps h3 h' ∧ ∀ J bot, iterK bot (m' + 1) (ref04_M_lead_l0b k0 D J) (j : Int) (some ⟨h.next, 0, none⟩) (i : Int) h3 = if leadN C j g m' i = R then J h' else some ((leadN C j g m' i : Int), h') := by
  intro m'
  induction m' with
  | zero =>
   intro i h3 hi S
   obtain rfl : i = R := by omega
   refine ⟨h3, S, .refl _ _, fun J bot => ?_⟩
   have c0 := S.c
   rw [iterK_s, ref04_M_lead_l0b]
   with_reducible repeat' first | refine sbn ?_ | refine bnd (ldM3 (by assumption)) ?_ | refine bnd (decM3 _ _ _) ?_ | refine bnd (ldI0 (by assumption)) ?_ | refine bnd (ldI1 (by assumption)) ?_ | refine bnd (ldL2 (by assumption)) ?_ | refine jn ?_ | refine gp1 ?_ ?_ | refine gp2 ?_ ?_ ?_ | refine gp3 ?_ ?_ ?_ ?_ | refine bnd (ldZ0 (by assumption)) ?_ | refine bnd (ldZ1 (by assumption)) ?_ | refine bnd (ldZ2 (by assumption)) ?_ | rfl
   refine ifn (by rw [decide_eq_true_eq]; omega) ?_
   rw [leadN, if_pos rfl]
  | succ m' ih =>
   intro i h3 hi S
   have hi' : i < R := by omega
   obtain ⟨h4, e4, S4, k4⟩ := S.at k0 D hi' hj hs
   have c0 := S.c
   by_cases e : g (i * C + j) = 0
   ·obtain ⟨h', S', k', e'⟩ := ih (i + 1) h4 (by omega) S4
    refine ⟨h', S', k4.trans k', fun J bot => ?_⟩
    rw [iterK_s, ref04_M_lead_l0b]
    with_reducible repeat' first | refine sbn ?_ | refine bnd (ldM3 (by assumption)) ?_ | refine bnd (decM3 _ _ _) ?_ | refine bnd (ldI0 (by assumption)) ?_ | refine bnd (ldI1 (by assumption)) ?_ | refine bnd (ldL2 (by assumption)) ?_ | refine jn ?_ | refine gp1 ?_ ?_ | refine gp2 ?_ ?_ ?_ | refine gp3 ?_ ?_ ?_ ?_ | refine bnd (ldZ0 (by assumption)) ?_ | refine bnd (ldZ1 (by assumption)) ?_ | refine bnd (ldZ2 (by assumption)) ?_ | rfl
    refine ifp (by rw [decide_eq_true_eq]; omega) ?_
    with_reducible repeat' first | refine sbn ?_ | refine bnd (ldM3 (by assumption)) ?_ | refine bnd (decM3 _ _ _) ?_ | refine bnd (ldI0 (by assumption)) ?_ | refine bnd (ldI1 (by assumption)) ?_ | refine bnd (ldL2 (by assumption)) ?_ | refine jn ?_ | refine gp1 ?_ ?_ | refine gp2 ?_ ?_ ?_ | refine gp3 ?_ ?_ ?_ ?_ | refine bnd (ldZ0 (by assumption)) ?_ | refine bnd (ldZ1 (by assumption)) ?_ | refine bnd (ldZ2 (by assumption)) ?_ | rfl
    refine bnd e4 ?_
    refine ifn (by simp [e]) ?_
    rw [w1 (by omega), leadN, if_pos e]
    exact e' J bot
   ·refine ⟨h4, S4, k4, fun J bot => ?_⟩
    rw [iterK_s, ref04_M_lead_l0b]
    with_reducible repeat' first | refine sbn ?_ | refine bnd (ldM3 (by assumption)) ?_ | refine bnd (decM3 _ _ _) ?_ | refine bnd (ldI0 (by assumption)) ?_ | refine bnd (ldI1 (by assumption)) ?_ | refine bnd (ldL2 (by assumption)) ?_ | refine jn ?_ | refine gp1 ?_ ?_ | refine gp2 ?_ ?_ ?_ | refine gp3 ?_ ?_ ?_ ?_ | refine bnd (ldZ0 (by assumption)) ?_ | refine bnd (ldZ1 (by assumption)) ?_ | refine bnd (ldZ2 (by assumption)) ?_ | rfl
    refine ifp (by rw [decide_eq_true_eq]; omega) ?_
    with_reducible repeat' first | refine sbn ?_ | refine bnd (ldM3 (by assumption)) ?_ | refine bnd (decM3 _ _ _) ?_ | refine bnd (ldI0 (by assumption)) ?_ | refine bnd (ldI1 (by assumption)) ?_ | refine bnd (ldL2 (by assumption)) ?_ | refine jn ?_ | refine gp1 ?_ ?_ | refine gp2 ?_ ?_ ?_ | refine gp3 ?_ ?_ ?_ ?_ | refine bnd (ldZ0 (by assumption)) ?_ | refine bnd (ldZ1 (by assumption)) ?_ | refine bnd (ldZ2 (by assumption)) ?_ | rfl
    refine bnd e4 ?_
    refine ifp (by simp; omega) ?_
    rw [leadN, if_neg e, if_neg (by omega)]
 obtain ⟨g1, hg1, S1⟩ := SI.mk0 (sp := sp) m
 have k1 : Keeps h g1 := hg1 ▸ Keeps.new h _
 obtain ⟨h', S', k', e'⟩ := go (R - i) i g1 (by omega) S1
 refine ⟨h', ?_, k1.trans k'⟩
 unfold ref04_M_lead
 refine jn ?_
 show ref04_M_lead_l0 k0 D _ j _ i (h.new (.cells (mcell R C (whole B (R * C) sp)) 57 true 0)) = _
 rw [← hg1]
 unfold ref04_M_lead_l0
 obtain ⟨bot, hbot⟩ := iterK_of (fun _ _ _ _ => none) (ref04_M_lead_l0b k0 D _) (show R - i + 1 ≤ k0 by omega)
 rw [hbot]
 refine (e' _ bot).trans ?_
 split <;> rfl
theorem copied_spec {k0 : Nat} (D : CallF) {h : AHeap} {R C N : Nat} {s : Slc} {g : Nat → Nat} (Rw : Row encI h s (matN N g)) (hN : N ≠ 0) (hl : N ≤ 100000) (he : ∀ t, t < N → g t < 256) :
  ∃ h' B', ref04_copied k0 D (R, C, s) h = some (((R : Int), (C : Int), whole B' N (some 2)), h') ∧ Keeps h h' ∧ h.next ≤ B' ∧ Mx h' B' N g := by
 have hlen : (matN N g).length = N := mat_length N _
 obtain ⟨g1, hg1⟩ : ∃ g1, g1 = h.new (.cells [.int .i64 R, .int .i64 C, .slice s.a s.len s.cap] 57 true 0) := ⟨_, rfl⟩
 have k1 : Keeps h g1 := hg1 ▸ Keeps.new h _
 have n1 : g1.next = h.next + 1 := by rw [hg1]; rfl
 obtain ⟨g2, hg2⟩ : ∃ g2, g2 = g1.new (.cells [.int .i64 0, .int .i64 0, .slice none 0 0] 57 true 0) := ⟨_, rfl⟩
 have k2 : Keeps g1 g2 := hg2 ▸ Keeps.new g1 _
 have n2 : g2.next = g1.next + 1 := by rw [hg2]; rfl
 obtain ⟨g3, hg3⟩ : ∃ g3, g3 = g2.new (.cells [] 3 true 0) := ⟨_, rfl⟩
 have k3 : Keeps g2 g3 := hg3 ▸ Keeps.new g2 _
 have n3 : g3.next = g2.next + 1 := by rw [hg3]; rfl
 obtain ⟨g4, hg4⟩ : ∃ g4, g4 = g3.new (outB encI 3 (matN N g)) := ⟨_, rfl⟩
 have k4 : Keeps g3 g4 := hg4 ▸ Keeps.new g3 _
 have n4 : g4.next = g3.next + 1 := by rw [hg4]; rfl
 have b1 : g1.get h.next = some (.cells (mcell R C s) 57 true 0) := by rw [hg1]; simp [mcell]
 have b2 : g2.get h.next = some (.cells (mcell R C s) 57 true 0) := by rw [k2.oth _ (by omega) (fun f => f)]; exact b1
 have b3 : g3.get h.next = some (.cells (mcell R C s) 57 true 0) := by rw [k3.oth _ (by omega) (fun f => f)]; exact b2
 have b4 : g4.get h.next = some (.cells (mcell R C s) 57 true 0) := by rw [k4.oth _ (by omega) (fun f => f)]; exact b3
 have y4 : g4.get g1.next = some (.cells [.int .i64 0, .int .i64 0, .slice none 0 0] 57 true 0) := by rw [k4.oth _ (by omega) (fun f => f), k3.oth _ (by omega) (fun f => f), hg2]; simp
 have k13 := (k1.trans k2).trans k3
 have rd := Row.rdS (Rw.keeps k13)
 have sl : s.len = N := by rw [Rw.1, hlen]
 have ap := append_fresh (enc := encI) (bytes := 8) (e := 3) (h := g3) (b := g2.next) (xs := matN N g) (by omega) (by omega) (by omega)
 rw [hlen, ← hg4] at ap
 obtain ⟨g5, hg5⟩ : ∃ g5, g5 = g4.set g1.next (.cells (mcell R C (whole g3.next N (some 2))) 57 true 0) := ⟨_, rfl⟩
 have st : stL 3 ⟨g1.next, 0, none⟩ (mcell R C (whole g3.next N (some 2))) g4 = some g5 := by rw [hg5]; exact stM3 (cs := [.int .i64 0, .int .i64 0, .slice none 0 0]) (e := 57) y4 rfl
 have b5 : g5.get g1.next = some (.cells (mcell R C (whole g3.next N (some 2))) 57 true 0) := by rw [hg5]; simp
 refine ⟨g5, g3.next, ?_, ?_, by omega, ⟨?_, by rw [hg5]; simp; omega, he⟩⟩
 ·unfold ref04_copied
  dsimp only
  rw [← hg1, ← hg2, ← hg3]
  with_reducible repeat' first | refine sbn ?_ | refine bnd (ldM3 (by assumption)) ?_ | refine bnd (decM3 _ _ _) ?_ | refine bnd (ldI0 (by assumption)) ?_ | refine bnd (ldI1 (by assumption)) ?_ | refine bnd (ldL2 (by assumption)) ?_ | refine jn ?_ | refine gp1 ?_ ?_ | refine gp2 ?_ ?_ ?_ | refine gp3 ?_ ?_ ?_ ?_ | refine bnd (ldZ0 (by assumption)) ?_ | refine bnd (ldZ1 (by assumption)) ?_ | refine bnd (ldZ2 (by assumption)) ?_ | rfl
  refine bnd rd ?_
  rw [sl]
  refine bnd ap ?_
  with_reducible repeat' first | refine sbn ?_ | refine bnd (ldM3 (by assumption)) ?_ | refine bnd (decM3 _ _ _) ?_ | refine bnd (ldI0 (by assumption)) ?_ | refine bnd (ldI1 (by assumption)) ?_ | refine bnd (ldL2 (by assumption)) ?_ | refine jn ?_ | refine gp1 ?_ ?_ | refine gp2 ?_ ?_ ?_ | refine gp3 ?_ ?_ ?_ ?_ | refine bnd (ldZ0 (by assumption)) ?_ | refine bnd (ldZ1 (by assumption)) ?_ | refine bnd (ldZ2 (by assumption)) ?_ | rfl
  refine bnd st ?_
  with_reducible repeat' first | refine sbn ?_ | refine bnd (ldM3 (by assumption)) ?_ | refine bnd (decM3 _ _ _) ?_ | refine bnd (ldI0 (by assumption)) ?_ | refine bnd (ldI1 (by assumption)) ?_ | refine bnd (ldL2 (by assumption)) ?_ | refine jn ?_ | refine gp1 ?_ ?_ | refine gp2 ?_ ?_ ?_ | refine gp3 ?_ ?_ ?_ ?_ | refine bnd (ldZ0 (by assumption)) ?_ | refine bnd (ldZ1 (by assumption)) ?_ | refine bnd (ldZ2 (by assumption)) ?_ | rfl
 ·exact (k13.trans k4).beh (T := (· = g1.next)) (hg5 ▸ Chg.set (.inr rfl)) fun x hx e => by
   have e : x = g1.next := e
   omega
 ·rw [hg5, AHeap.get_set, if_neg (by omega), hg4]; simp
section
variable {H0 : AHeap} {O ob R C : Nat} {s : Slc} {e : TypeId} {f f' g : Nat → Nat} {h h' : AHeap}
theorem In1.at (S : In1 h O ob R C s e g) (k : Nat) (D : CallF) {i j : Nat} (hi : i < R) (hj : j < C) (hs : R * C ≤ 100000) :
  ∃ h', ref04_M_At k D (R, C, s) (i : Int) (j : Int) h = some ((g (i * C + j) : Int), h') ∧ Keeps h h' := by
 have := le_row (c := C) hi
 exact at_row k D (r := R) (C := C) (i := i) (j := j) S.row (by unfold matN; exact mat_get (by omega)) (by omega)
end
section
variable {k0 : Nat} {H0 : AHeap} {O oa oo R C : Nat} {sA rs : Slc} {rows : List Int} {g : Nat → Nat}
theorem rpick_l2 (D : CallF) {yb : Nat} {h : AHeap} (Rr : Row encI h rs rows) (hl : rows.length ≤ 255) (ca : h.get oa = some (.cells (mcell R C sA) 57 true 0)) (y : h.get yb = some (.cells (mcell 0 0 nilS) 57 true 0)) (J) : ∀ (m i : Nat), i + m = rows.length → ∀ bot,
  iterK bot (m + 1) (ref04_Pick_l2b k0 D J) rs (some ⟨oa, 0, none⟩) (some ⟨yb, 0, none⟩) (i : Int) h = if (rows.drop i).all (okR R) = true then J rs (some ⟨oa, 0, none⟩) (some ⟨yb, 0, none⟩) h else some (((0, 0, nilS), 1), h)
 | 0, i, hi, bot => by
  rw [iterK_s, ref04_Pick_l2b]
  refine ifn (by rw [decide_eq_true_eq, Rr.1]; omega) ?_
  rw [List.drop_eq_nil_of_le (by omega)]
  rfl
 | m + 1, i, hi, bot => by
  obtain ⟨x, hx⟩ := isome (l := rows) (i := i) (by omega)
  obtain ⟨q, hq, hld⟩ := Rr.ldI hx
  have ih := rpick_l2 D Rr hl ca y J m (i + 1) (by omega) bot
  rw [iterK_s, ref04_Pick_l2b]
  refine ifp (by rw [decide_eq_true_eq, Rr.1]; omega) ?_
  with_reducible repeat' first | refine sbn ?_ | refine bnd (ldM3 (by assumption)) ?_ | refine bnd (decM3 _ _ _) ?_ | refine bnd (ldI0 (by assumption)) ?_ | refine bnd (ldI1 (by assumption)) ?_ | refine bnd (ldL2 (by assumption)) ?_ | refine jn ?_ | refine gp1 ?_ ?_ | refine gp2 ?_ ?_ ?_ | refine gp3 ?_ ?_ ?_ ?_ | refine bnd (ldZ0 (by assumption)) ?_ | refine bnd (ldZ1 (by assumption)) ?_ | refine bnd (ldZ2 (by assumption)) ?_ | rfl
  refine bnd hq (bnd hld ?_)
  rw [all_at hx]
  by_cases c1 : x < 0
  ·refine ifp (by rw [decide_eq_true_eq]; exact c1) (ifp rfl ?_)
   rw [if_neg (by simp [okR, c1])]
   exact zfin y fun x h => some ((x, (1 : Int)), h)
  ·refine ifn (by rw [decide_eq_true_eq]; exact c1) ?_
   refine bnd hq (bnd hld ?_)
   with_reducible repeat' first | refine sbn ?_ | refine bnd (ldM3 (by assumption)) ?_ | refine bnd (decM3 _ _ _) ?_ | refine bnd (ldI0 (by assumption)) ?_ | refine bnd (ldI1 (by assumption)) ?_ | refine bnd (ldL2 (by assumption)) ?_ | refine jn ?_ | refine gp1 ?_ ?_ | refine gp2 ?_ ?_ ?_ | refine gp3 ?_ ?_ ?_ ?_ | refine bnd (ldZ0 (by assumption)) ?_ | refine bnd (ldZ1 (by assumption)) ?_ | refine bnd (ldZ2 (by assumption)) ?_ | rfl
   by_cases c2 : x ≥ (R : Int)
   ·refine ifp (by rw [decide_eq_true_eq]; exact c2) ?_
    rw [if_neg (by simp [okR, c2])]
    exact zfin y fun x h => some ((x, (1 : Int)), h)
   ·refine ifn (by rw [decide_eq_true_eq]; exact c2) ?_
    rw [w1 (by omega), ih]
    simp [okR, c1, c2]
end
section
variable {k0 : Nat} {H0 : AHeap} {O oa oo R C : Nat} {sA rs : Slc} {rows : List Int} {g : Nat → Nat}
theorem rpick_l1 (D : CallF) (hC : C ≤ 255) (hR : R ≤ 255) (hl : rows.length ≤ 255) (hok : rows.all (okR R) = true) (hap : ∀ a, rs.a = some a → ¬ a.block = O) (y : Option Addr) {i : Nat} (hi : i < rows.length) : ∀ (m j : Nat) (h : AHeap), j + m = C → Row encI h rs rows → In1 h O oa R C sA 57 g → Ou1 H0 O oo rows.length C 57 (pf (i * C + j) (pickF C g (natOf rows))) h →
  ∃ h', Chg (· = O) h h' ∧ Ou1 H0 O oo rows.length C 57 (pf ((i + 1) * C) (pickF C g (natOf rows))) h' ∧ ∀ J bot, iterK bot (m + 1) (ref04_Pick_l1b k0 D J) rs (some ⟨oa, 0, none⟩) y (some ⟨oo, 0, none⟩) (i : Int) (j : Int) h = J rs (some ⟨oa, 0, none⟩) y (some ⟨oo, 0, none⟩) (i : Int) h' := by
 intro m
 have hs : R * C ≤ 100000 := Nat.le_trans (Nat.mul_le_mul hR hC) (by omega)
 have hs2 : rows.length * C ≤ 100000 := Nat.le_trans (Nat.mul_le_mul hl hC) (by omega)
 obtain ⟨hx, hw⟩ := okR_nat hok hi
 induction m with
 | zero =>
  intro j h hj Rr A Z
  obtain rfl : j = C := by omega
  refine ⟨h, .refl _ _, by rw [Nat.succ_mul]; exact Z, fun J bot => ?_⟩
  have ca := A.cel
  rw [iterK_s, ref04_Pick_l1b]
  with_reducible repeat' first | refine sbn ?_ | refine bnd (ldM3 (by assumption)) ?_ | refine bnd (decM3 _ _ _) ?_ | refine bnd (ldI0 (by assumption)) ?_ | refine bnd (ldI1 (by assumption)) ?_ | refine bnd (ldL2 (by assumption)) ?_ | refine jn ?_ | refine gp1 ?_ ?_ | refine gp2 ?_ ?_ ?_ | refine gp3 ?_ ?_ ?_ ?_ | refine bnd (ldZ0 (by assumption)) ?_ | refine bnd (ldZ1 (by assumption)) ?_ | refine bnd (ldZ2 (by assumption)) ?_ | rfl
  exact ifn (by rw [decide_eq_true_eq]; omega) rfl
 | succ m ih =>
  intro j h hj Rr A Z
  have hj' : j < C := by omega
  have pA := le_row (c := C) hw
  have pO := le_row (c := C) hi
  obtain ⟨q, hq, hld⟩ := Rr.ldI hx
  obtain ⟨h1, e1, k1⟩ := A.at k0 D hw hj' hs
  have A1 := A.keeps k1
  have Z1 := Z.keeps k1
  obtain ⟨h2, e2, Z2, c2⟩ := Z1.wr (t := i * C + j) (x := g (natOf rows i * C + j)) (by omega) (A.el _ (by omega))
  obtain ⟨h', c', Z', e'⟩ := ih (j + 1) h2 (by omega) ((Rr.keeps k1).chg c2 hap) (A1.chg c2) (Z2.congr fun t _ => by rw [← pickF_at (g := g) (w := natOf rows) hj']; exact pf_upd _ _ t)
  refine ⟨h', ((Chg.keeps k1).trans c2).trans c', Z', fun J bot => ?_⟩
  have ca := A.cel
  have ca1 := A1.cel
  have co := Z.cel
  have co1 := Z1.cel
  rw [iterK_s, ref04_Pick_l1b]
  with_reducible repeat' first | refine sbn ?_ | refine bnd (ldM3 (by assumption)) ?_ | refine bnd (decM3 _ _ _) ?_ | refine bnd (ldI0 (by assumption)) ?_ | refine bnd (ldI1 (by assumption)) ?_ | refine bnd (ldL2 (by assumption)) ?_ | refine jn ?_ | refine gp1 ?_ ?_ | refine gp2 ?_ ?_ ?_ | refine gp3 ?_ ?_ ?_ ?_ | refine bnd (ldZ0 (by assumption)) ?_ | refine bnd (ldZ1 (by assumption)) ?_ | refine bnd (ldZ2 (by assumption)) ?_ | rfl
  refine ifp (by rw [decide_eq_true_eq]; omega) ?_
  with_reducible repeat' first | refine sbn ?_ | refine bnd (ldM3 (by assumption)) ?_ | refine bnd (decM3 _ _ _) ?_ | refine bnd (ldI0 (by assumption)) ?_ | refine bnd (ldI1 (by assumption)) ?_ | refine bnd (ldL2 (by assumption)) ?_ | refine jn ?_ | refine gp1 ?_ ?_ | refine gp2 ?_ ?_ ?_ | refine gp3 ?_ ?_ ?_ ?_ | refine bnd (ldZ0 (by assumption)) ?_ | refine bnd (ldZ1 (by assumption)) ?_ | refine bnd (ldZ2 (by assumption)) ?_ | rfl
  refine bnd hq (bnd hld ?_)
  refine bnd e1 ?_
  with_reducible repeat' first | refine sbn ?_ | refine bnd (ldM3 (by assumption)) ?_ | refine bnd (decM3 _ _ _) ?_ | refine bnd (ldI0 (by assumption)) ?_ | refine bnd (ldI1 (by assumption)) ?_ | refine bnd (ldL2 (by assumption)) ?_ | refine jn ?_ | refine gp1 ?_ ?_ | refine gp2 ?_ ?_ ?_ | refine gp3 ?_ ?_ ?_ ?_ | refine bnd (ldZ0 (by assumption)) ?_ | refine bnd (ldZ1 (by assumption)) ?_ | refine bnd (ldZ2 (by assumption)) ?_ | rfl
  refine bnd (widx (C := C) (i := i) (show i * C + j < rows.length * C by omega) hs2) (bnd e2 ?_)
  rw [w1 (by omega)]
  exact e' J bot
end
section
variable {k0 : Nat} {H0 : AHeap} {O oa oo R C : Nat} {sA rs : Slc} {rows : List Int} {g : Nat → Nat}
theorem rpick_l0 (hk : 1000 ≤ k0) (D : CallF) (hC : C ≤ 255) (hR : R ≤ 255) (hl : rows.length ≤ 255) (hok : rows.all (okR R) = true) (hap : ∀ a, rs.a = some a → ¬ a.block = O) (y : Option Addr) : ∀ (m i : Nat) (h : AHeap), i + m = rows.length → Row encI h rs rows → In1 h O oa R C sA 57 g → Ou1 H0 O oo rows.length C 57 (pf (i * C) (pickF C g (natOf rows))) h →
  ∃ h', Chg (· = O) h h' ∧ Ou1 H0 O oo rows.length C 57 (pickF C g (natOf rows)) h' ∧ ∀ J bot, iterK bot (m + 1) (ref04_Pick_l0b k0 D J) rs (some ⟨oa, 0, none⟩) y (some ⟨oo, 0, none⟩) (i : Int) h = J y (some ⟨oo, 0, none⟩) h' := by
 intro m
 induction m with
 | zero =>
  intro i h hi Rr A Z
  obtain rfl : i = rows.length := by omega
  refine ⟨h, .refl _ _, Z.congr fun t ht => by unfold pf; rw [if_pos ht], fun J bot => ?_⟩
  rw [iterK_s, ref04_Pick_l0b]
  exact ifn (by rw [decide_eq_true_eq, Rr.1]; omega) rfl
 | succ m ih =>
  intro i h hi Rr A Z
  have hi' : i < rows.length := by omega
  obtain ⟨h1, c1, Z1, e1⟩ := rpick_l1 (k0 := k0) D hC hR hl hok hap y hi' C 0 h (by omega) Rr A Z
  obtain ⟨h', c', Z', e'⟩ := ih (i + 1) h1 (by omega) (Rr.chg c1 hap) (A.chg c1) Z1
  refine ⟨h', c1.trans c', Z', fun J bot => ?_⟩
  rw [iterK_s, ref04_Pick_l0b]
  refine ifp (by rw [decide_eq_true_eq, Rr.1]; omega) ?_
  with_reducible repeat' first | refine sbn ?_ | refine bnd (ldM3 (by assumption)) ?_ | refine bnd (decM3 _ _ _) ?_ | refine bnd (ldI0 (by assumption)) ?_ | refine bnd (ldI1 (by assumption)) ?_ | refine bnd (ldL2 (by assumption)) ?_ | refine jn ?_ | refine gp1 ?_ ?_ | refine gp2 ?_ ?_ ?_ | refine gp3 ?_ ?_ ?_ ?_ | refine bnd (ldZ0 (by assumption)) ?_ | refine bnd (ldZ1 (by assumption)) ?_ | refine bnd (ldZ2 (by assumption)) ?_ | rfl
  unfold ref04_Pick_l1
  obtain ⟨bot2, hbot2⟩ := iterK_of (fun _ _ _ _ _ _ _ => none) (ref04_Pick_l1b k0 D _) (show C + 1 ≤ k0 by omega)
  rw [hbot2]
  refine (e1 _ bot2).trans ?_
  rw [w1 (by omega)]
  exact e' J bot
end
theorem rpick_spec {k0 : Nat} (hk : 200000 ≤ k0) (D : CallF) {h : AHeap} {r c : Int} {s rs : Slc} {xs rows : List Int} (I : Row encI h s xs) (hl : xs.length ≤ 100000) (Rr : Row encI h rs rows) :
  ∃ h' res, ref04_Pick k0 D (r, c, s) rs h = some (res, h') ∧ Out h h' res (pickP r c xs rows) ∧ Keeps h h' := by
 obtain ⟨g1, hg1⟩ : ∃ g1, g1 = h.new (.cells [.int .i64 r, .int .i64 c, .slice s.a s.len s.cap] 57 true 0) := ⟨_, rfl⟩
 have k1 : Keeps h g1 := hg1 ▸ Keeps.new h _
 have n1 : g1.next = h.next + 1 := by rw [hg1]; rfl
 obtain ⟨g2, hg2⟩ : ∃ g2, g2 = g1.new (.cells [.int .i64 0, .int .i64 0, .slice none 0 0] 57 true 0) := ⟨_, rfl⟩
 have k2 : Keeps g1 g2 := hg2 ▸ Keeps.new g1 _
 have n2 : g2.next = g1.next + 1 := by rw [hg2]; rfl
 have k02 := k1.trans k2
 have a2 : g2.get h.next = some (.cells (mcell r c s) 57 true 0) := by rw [k2.oth _ (by omega) (fun f => f), hg1]; simp [mcell]
 have y2 : g2.get g1.next = some (.cells (mcell 0 0 nilS) 57 true 0) := by rw [hg2]; simp [mcell, nilS]
 obtain ⟨g5, e5, k5⟩ := rcheckM_spec (k0 := k0) D (r := r) (c := c) (I.keeps k02) (by omega) (by omega)
 have k05 := k02.trans k5
 have a5 : g5.get h.next = some (.cells (mcell r c s) 57 true 0) := by rw [k5.oth _ (by omega) (fun f => f)]; exact a2
 have y5 : g5.get g1.next = some (.cells (mcell 0 0 nilS) 57 true 0) := by rw [k5.oth _ (by omega) (fun f => f)]; exact y2
 have nx5 := k5.nx
 have R5 := Rr.keeps k05
 by_cases ec : chk r c xs = 0
 ·by_cases el : rows.length = 0 ∨ rows.length > 255
  ·refine ⟨g5, ((0, 0, nilS), 1), ?_, ?_, k05⟩
   ·unfold ref04_Pick
    dsimp only
    rw [← hg1, ← hg2]
    with_reducible repeat' first | refine sbn ?_ | refine bnd (ldM3 (by assumption)) ?_ | refine bnd (decM3 _ _ _) ?_ | refine bnd (ldI0 (by assumption)) ?_ | refine bnd (ldI1 (by assumption)) ?_ | refine bnd (ldL2 (by assumption)) ?_ | refine jn ?_ | refine gp1 ?_ ?_ | refine gp2 ?_ ?_ ?_ | refine gp3 ?_ ?_ ?_ ?_ | refine bnd (ldZ0 (by assumption)) ?_ | refine bnd (ldZ1 (by assumption)) ?_ | refine bnd (ldZ2 (by assumption)) ?_ | rfl
    refine bnd e5 (ifn (by simp [ec]) ?_)
    with_reducible repeat' first | refine sbn ?_ | refine bnd (ldM3 (by assumption)) ?_ | refine bnd (decM3 _ _ _) ?_ | refine bnd (ldI0 (by assumption)) ?_ | refine bnd (ldI1 (by assumption)) ?_ | refine bnd (ldL2 (by assumption)) ?_ | refine jn ?_ | refine gp1 ?_ ?_ | refine gp2 ?_ ?_ ?_ | refine gp3 ?_ ?_ ?_ ?_ | refine bnd (ldZ0 (by assumption)) ?_ | refine bnd (ldZ1 (by assumption)) ?_ | refine bnd (ldZ2 (by assumption)) ?_ | rfl
    rw [Rr.1]
    by_cases e0 : rows.length = 0
    ·refine ifp (by rw [decide_eq_true_eq]; omega) (ifp rfl ?_)
     exact zfin y5 fun x h => some ((x, (1 : Int)), h)
    ·refine ifn (by rw [decide_eq_true_eq]; omega) (ifp (by rw [decide_eq_true_eq]; omega) ?_)
     exact zfin y5 fun x h => some ((x, (1 : Int)), h)
   ·unfold pickP
    rw [if_neg (fun h => h ec), if_pos el]
    exact Out.no _
  ·obtain ⟨R, C, g, rfl, rfl, hR1, hR2, hC1, hC2, hxs, hel⟩ := chk_ok ec
   have lC : ∀ J, rows.length ≤ 255 → iterK (fun _ _ _ _ _ => none) k0 (ref04_Pick_l2b k0 D J) rs (some ⟨h.next, 0, none⟩) (some ⟨g1.next, 0, none⟩) 0 g5 = if rows.all (okR R) = true then J rs (some ⟨h.next, 0, none⟩) (some ⟨g1.next, 0, none⟩) g5 else some (((0, 0, nilS), 1), g5) := fun J hl => by
    obtain ⟨bot, hbot⟩ := iterK_of (fun _ _ _ _ _ => none) (ref04_Pick_l2b k0 D J) (show rows.length + 1 ≤ k0 by omega)
    rw [hbot]
    exact rpick_l2 (k0 := k0) (C := C) (sA := s) D R5 hl a5 y5 J rows.length 0 (by omega) bot
   by_cases call : rows.all (okR R) = true
   ·have lA := row_lt I (by rw [hxs]; exact matN_ne (by have := Nat.mul_pos hR1 hC1; omega))
    have lR := row_lt Rr (fun e => by rw [e] at el; simp at el)
    have I5 := I.keeps k05
    rw [hxs] at I5
    have hN2 : rows.length * C ≤ 100000 := Nat.le_trans (Nat.mul_le_mul (show rows.length ≤ 255 by omega) hC2) (by omega)
    obtain ⟨g6, e6, k6, n6, b6⟩ := zero_spec k0 D rows.length C g5 hN2
    obtain ⟨g7, st7, k7, n7, b7⟩ := mvar (h := g6) (e := 57) (r := (rows.length : Int)) (c := (C : Int)) (s := whole (g5.next + 1) (rows.length * C))
    have k57 := k6.trans k7
    have k07 := k05.trans k57
    have o7 : Mx g7 (g5.next + 1) (rows.length * C) (fun _ => 0) := by
     have q : Mx g6 (g5.next + 1) (rows.length * C) (fun _ => 0) := ⟨b6, by omega, fun _ _ => by omega⟩
     exact q.keeps k7
    have A7 : In1 g7 (g5.next + 1) h.next R C s 57 g := ⟨I5.keeps k57, by rw [k57.oth _ (by omega) (fun f => f)]; exact a5, by omega, by omega, fun a ha => by have := lA a ha; omega, hel⟩
    have Z7 : Ou1 g7 (g5.next + 1) g6.next rows.length C 57 (pf (0 * C) (pickF C g (natOf rows))) g7 := ⟨o7.congr fun t _ => by unfold pf; rw [Nat.zero_mul, if_neg (Nat.not_lt_zero _)], b7, by omega, by omega, .refl _ _⟩
    obtain ⟨g8, c8, Z8, e8⟩ := rpick_l0 (show 1000 ≤ k0 by omega) D hC2 hR2 (by omega) call (fun a ha => by have := lR a ha; omega) (some ⟨g1.next, 0, none⟩) rows.length 0 g7 (by omega) (R5.keeps k57) A7 Z7
    have nx8 := c8.nx
    have y8 : g8.get g1.next = some (.cells (mcell 0 0 nilS) 57 true 0) := by
     rw [c8.oth _ (by omega) (by omega), k57.oth _ (by omega) (fun f => f)]; exact y5
    have co8 := Z8.cel
    have c08 : Keeps h g8 := k07.beh c8 fun x hx e => by have e : x = g5.next + 1 := e; omega
    refine ⟨g8.set g1.next (.cells (mcell rows.length C (whole (g5.next + 1) (rows.length * C))) 57 true 0), ((rows.length, C, whole (g5.next + 1) (rows.length * C)), 0), ?_, ?_, c08.beh (T := (· = g1.next)) (Chg.set (.inr rfl)) fun x hx e => by
     have e : x = g1.next := e
     omega⟩
    ·unfold ref04_Pick
     dsimp only
     rw [← hg1, ← hg2]
     with_reducible repeat' first | refine sbn ?_ | refine bnd (ldM3 (by assumption)) ?_ | refine bnd (decM3 _ _ _) ?_ | refine bnd (ldI0 (by assumption)) ?_ | refine bnd (ldI1 (by assumption)) ?_ | refine bnd (ldL2 (by assumption)) ?_ | refine jn ?_ | refine gp1 ?_ ?_ | refine gp2 ?_ ?_ ?_ | refine gp3 ?_ ?_ ?_ ?_ | refine bnd (ldZ0 (by assumption)) ?_ | refine bnd (ldZ1 (by assumption)) ?_ | refine bnd (ldZ2 (by assumption)) ?_ | rfl
     refine bnd e5 (ifn (by simp [ec]) ?_)
     with_reducible repeat' first | refine sbn ?_ | refine bnd (ldM3 (by assumption)) ?_ | refine bnd (decM3 _ _ _) ?_ | refine bnd (ldI0 (by assumption)) ?_ | refine bnd (ldI1 (by assumption)) ?_ | refine bnd (ldL2 (by assumption)) ?_ | refine jn ?_ | refine gp1 ?_ ?_ | refine gp2 ?_ ?_ ?_ | refine gp3 ?_ ?_ ?_ ?_ | refine bnd (ldZ0 (by assumption)) ?_ | refine bnd (ldZ1 (by assumption)) ?_ | refine bnd (ldZ2 (by assumption)) ?_ | rfl
     rw [Rr.1]
     refine ifn (by rw [decide_eq_true_eq]; omega) (ifn (by rw [decide_eq_true_eq]; omega) ?_)
     with_reducible repeat' first | refine sbn ?_ | refine bnd (ldM3 (by assumption)) ?_ | refine bnd (decM3 _ _ _) ?_ | refine bnd (ldI0 (by assumption)) ?_ | refine bnd (ldI1 (by assumption)) ?_ | refine bnd (ldL2 (by assumption)) ?_ | refine jn ?_ | refine gp1 ?_ ?_ | refine gp2 ?_ ?_ ?_ | refine gp3 ?_ ?_ ?_ ?_ | refine bnd (ldZ0 (by assumption)) ?_ | refine bnd (ldZ1 (by assumption)) ?_ | refine bnd (ldZ2 (by assumption)) ?_ | rfl
     unfold ref04_Pick_l2
     rw [lC _ (by omega), if_pos call]
     with_reducible repeat' first | refine sbn ?_ | refine bnd (ldM3 (by assumption)) ?_ | refine bnd (decM3 _ _ _) ?_ | refine bnd (ldI0 (by assumption)) ?_ | refine bnd (ldI1 (by assumption)) ?_ | refine bnd (ldL2 (by assumption)) ?_ | refine jn ?_ | refine gp1 ?_ ?_ | refine gp2 ?_ ?_ ?_ | refine gp3 ?_ ?_ ?_ ?_ | refine bnd (ldZ0 (by assumption)) ?_ | refine bnd (ldZ1 (by assumption)) ?_ | refine bnd (ldZ2 (by assumption)) ?_ | rfl
     rw [Rr.1]
     refine bnd e6 (bnd st7 ?_)
     with_reducible repeat' first | refine sbn ?_ | refine bnd (ldM3 (by assumption)) ?_ | refine bnd (decM3 _ _ _) ?_ | refine bnd (ldI0 (by assumption)) ?_ | refine bnd (ldI1 (by assumption)) ?_ | refine bnd (ldL2 (by assumption)) ?_ | refine jn ?_ | refine gp1 ?_ ?_ | refine gp2 ?_ ?_ ?_ | refine gp3 ?_ ?_ ?_ ?_ | refine bnd (ldZ0 (by assumption)) ?_ | refine bnd (ldZ1 (by assumption)) ?_ | refine bnd (ldZ2 (by assumption)) ?_ | rfl
     unfold ref04_Pick_l0
     obtain ⟨bot, hbot⟩ := iterK_of (fun _ _ _ _ _ _ => none) (ref04_Pick_l0b k0 D _) (show rows.length + 1 ≤ k0 by omega)
     rw [hbot]
     refine (e8 _ bot).trans ?_
     exact yfin co8 y8 fun x h => some ((x, (0 : Int)), h)
    ·unfold pickP
     rw [if_neg (fun h => h ec), if_neg el, if_pos (show rows.all (okR (R : Int).toNat) = true from call)]
     simp only [Int.toNat_natCast]
     have u9 : Mx (g8.set g1.next (.cells (mcell rows.length C (whole (g5.next + 1) (rows.length * C))) 57 true 0)) (g5.next + 1) (rows.length * C) (pickF C g (natOf rows)) := Z8.o.chg (S := (· = g1.next)) (Chg.set (.inr rfl)) (by omega)
     refine ⟨rfl, rfl, rfl, ?_, whole_off (by omega)⟩
     refine (u9.congr fun t ht => ?_).inM (sp := some 0) rfl
     have hd := (Nat.div_lt_iff_lt_mul hC1).2 ht
     have hm := Nat.mod_lt t hC1
     have := le_row (c := C) (okR_nat call hd).2
     unfold pickF
     rw [hxs, natOf_mat (by omega)]
   ·refine ⟨g5, ((0, 0, nilS), 1), ?_, ?_, k05⟩
    ·unfold ref04_Pick
     dsimp only
     rw [← hg1, ← hg2]
     with_reducible repeat' first | refine sbn ?_ | refine bnd (ldM3 (by assumption)) ?_ | refine bnd (decM3 _ _ _) ?_ | refine bnd (ldI0 (by assumption)) ?_ | refine bnd (ldI1 (by assumption)) ?_ | refine bnd (ldL2 (by assumption)) ?_ | refine jn ?_ | refine gp1 ?_ ?_ | refine gp2 ?_ ?_ ?_ | refine gp3 ?_ ?_ ?_ ?_ | refine bnd (ldZ0 (by assumption)) ?_ | refine bnd (ldZ1 (by assumption)) ?_ | refine bnd (ldZ2 (by assumption)) ?_ | rfl
     refine bnd e5 (ifn (by simp [ec]) ?_)
     with_reducible repeat' first | refine sbn ?_ | refine bnd (ldM3 (by assumption)) ?_ | refine bnd (decM3 _ _ _) ?_ | refine bnd (ldI0 (by assumption)) ?_ | refine bnd (ldI1 (by assumption)) ?_ | refine bnd (ldL2 (by assumption)) ?_ | refine jn ?_ | refine gp1 ?_ ?_ | refine gp2 ?_ ?_ ?_ | refine gp3 ?_ ?_ ?_ ?_ | refine bnd (ldZ0 (by assumption)) ?_ | refine bnd (ldZ1 (by assumption)) ?_ | refine bnd (ldZ2 (by assumption)) ?_ | rfl
     rw [Rr.1]
     refine ifn (by rw [decide_eq_true_eq]; omega) (ifn (by rw [decide_eq_true_eq]; omega) ?_)
     with_reducible repeat' first | refine sbn ?_ | refine bnd (ldM3 (by assumption)) ?_ | refine bnd (decM3 _ _ _) ?_ | refine bnd (ldI0 (by assumption)) ?_ | refine bnd (ldI1 (by assumption)) ?_ | refine bnd (ldL2 (by assumption)) ?_ | refine jn ?_ | refine gp1 ?_ ?_ | refine gp2 ?_ ?_ ?_ | refine gp3 ?_ ?_ ?_ ?_ | refine bnd (ldZ0 (by assumption)) ?_ | refine bnd (ldZ1 (by assumption)) ?_ | refine bnd (ldZ2 (by assumption)) ?_ | rfl
     unfold ref04_Pick_l2
     rw [lC _ (by omega), if_neg call]
    ·unfold pickP
     rw [if_neg (fun h => h ec), if_neg el, if_neg (show ¬ rows.all (okR (R : Int).toNat) = true from call)]
     exact Out.no _
 ·refine ⟨g5, ((0, 0, nilS), chk r c xs), ?_, ?_, k05⟩
  ·unfold ref04_Pick
   dsimp only
   rw [← hg1, ← hg2]
   with_reducible repeat' first | refine sbn ?_ | refine bnd (ldM3 (by assumption)) ?_ | refine bnd (decM3 _ _ _) ?_ | refine bnd (ldI0 (by assumption)) ?_ | refine bnd (ldI1 (by assumption)) ?_ | refine bnd (ldL2 (by assumption)) ?_ | refine jn ?_ | refine gp1 ?_ ?_ | refine gp2 ?_ ?_ ?_ | refine gp3 ?_ ?_ ?_ ?_ | refine bnd (ldZ0 (by assumption)) ?_ | refine bnd (ldZ1 (by assumption)) ?_ | refine bnd (ldZ2 (by assumption)) ?_ | rfl
   refine bnd e5 (ifp (by simpa using ec) ?_)
   exact zfin y5 fun x h => some ((x, chk r c xs), h)
  ·unfold pickP
   rw [if_pos ec]
   exact Out.no _
section
variable {H0 : AHeap} {B B2 oa ol ou yb R : Nat} {s : Slc} {sp sp2 : Option Nat} {g u g' u' : Nat → Nat} {h h' : AHeap}
theorem mx_at {C N : Nat} {sp : Option Nat} (m : Mx h B (N * C) g) (k : Nat) (D : CallF) {i j : Nat} (hi : i < N) (hj : j < C) (hs : N * C ≤ 100000) :
  ∃ h', ref04_M_At k D (N, C, whole B (N * C) sp) (i : Int) (j : Int) h = some ((g (i * C + j) : Int), h') ∧ Keeps h h' := by
 have := le_row (c := C) hi
 exact at_row k D (r := N) (C := C) (i := i) (j := j) (m.row (sp := sp)) (by unfold matN; exact mat_get (by omega)) (by omega)
end
section
variable {k0 : Nat} {H0 : AHeap} {B B2 oa ol ou yb R : Nat} {s : Slc} {sp sp2 : Option Nat} {g u : Nat → Nat}
theorem rinv_l1 (hk : 1000 ≤ k0) (K : CallF) (D : DR B B2 oa ol ou yb) (hR : R ≤ 255) {j : Nat} (hj : j < R) : ∀ (m i : Nat) (h : AHeap), i + m = R → SR H0 B B2 oa ol ou yb R s sp sp2 (elimGi R j j i g) (elimUi R R j j i g u) h →
  ∃ h', SR H0 B B2 oa ol ou yb R s sp sp2 (elimG R j j g) (elimU R R j j g u) h' ∧ ∀ J bot, iterK bot (m + 1) (ref04_Inverse_l1b k0 K J) (some ⟨oa, 0, none⟩) (some ⟨yb, 0, none⟩) (some ⟨ol, 0, none⟩) (some ⟨ou, 0, none⟩) (j : Int) (i : Int) h = J (some ⟨oa, 0, none⟩) (some ⟨yb, 0, none⟩) (some ⟨ol, 0, none⟩) (some ⟨ou, 0, none⟩) (j : Int) h' := by
 intro m
 have hs : R * R ≤ 100000 := Nat.le_trans (Nat.mul_le_mul hR hR) (by omega)
 have hR0 : 0 < R := by omega
 induction m with
 | zero =>
  intro i h hi S
  obtain rfl : i = R := by omega
  refine ⟨h, S.congr (fun t ht => ?_) (fun t ht => ?_), fun J bot => ?_⟩
  ·unfold elimGi; rw [if_pos ((Nat.div_lt_iff_lt_mul hR0).2 ht)]
  ·unfold elimUi; rw [if_pos ((Nat.div_lt_iff_lt_mul hR0).2 ht)]
  ·have ca := S.ca
   rw [iterK_s, ref04_Inverse_l1b]
   with_reducible repeat' first | refine sbn ?_ | refine bnd (ldM3 (by assumption)) ?_ | refine bnd (decM3 _ _ _) ?_ | refine bnd (ldI0 (by assumption)) ?_ | refine bnd (ldI1 (by assumption)) ?_ | refine bnd (ldL2 (by assumption)) ?_ | refine jn ?_ | refine gp1 ?_ ?_ | refine gp2 ?_ ?_ ?_ | refine gp3 ?_ ?_ ?_ ?_ | refine bnd (ldZ0 (by assumption)) ?_ | refine bnd (ldZ1 (by assumption)) ?_ | refine bnd (ldZ2 (by assumption)) ?_ | rfl
   exact ifn (by rw [decide_eq_true_eq]; omega) rfl
 | succ m ih =>
  intro i h hi S
  have hi' : i < R := by omega
  have pi := le_row (c := R) hi'
  have pr := le_row (c := R) hj
  have ca := S.ca
  have cl := S.cl
  by_cases c1 : i = j
  ·obtain ⟨h', S', e'⟩ := ih (i + 1) h (by omega) (S.congr (fun t _ => by
     unfold elimGi
     by_cases d : t / R < i
     ·rw [if_pos d, if_pos (by omega)]
     ·rw [if_neg d]
      by_cases d2 : t / R < i + 1
      ·rw [if_pos d2]; unfold elimG; rw [if_pos (by omega)]
      ·rw [if_neg d2]) (fun t _ => by
     unfold elimUi
     by_cases d : t / R < i
     ·rw [if_pos d, if_pos (by omega)]
     ·rw [if_neg d]
      by_cases d2 : t / R < i + 1
      ·rw [if_pos d2]; unfold elimU; rw [if_pos (by omega)]
      ·rw [if_neg d2]))
   refine ⟨h', S', fun J bot => ?_⟩
   rw [iterK_s, ref04_Inverse_l1b]
   with_reducible repeat' first | refine sbn ?_ | refine bnd (ldM3 (by assumption)) ?_ | refine bnd (decM3 _ _ _) ?_ | refine bnd (ldI0 (by assumption)) ?_ | refine bnd (ldI1 (by assumption)) ?_ | refine bnd (ldL2 (by assumption)) ?_ | refine jn ?_ | refine gp1 ?_ ?_ | refine gp2 ?_ ?_ ?_ | refine gp3 ?_ ?_ ?_ ?_ | refine bnd (ldZ0 (by assumption)) ?_ | refine bnd (ldZ1 (by assumption)) ?_ | refine bnd (ldZ2 (by assumption)) ?_ | rfl
   refine ifp (by rw [decide_eq_true_eq]; omega) ?_
   with_reducible repeat' first | refine sbn ?_ | refine bnd (ldM3 (by assumption)) ?_ | refine bnd (decM3 _ _ _) ?_ | refine bnd (ldI0 (by assumption)) ?_ | refine bnd (ldI1 (by assumption)) ?_ | refine bnd (ldL2 (by assumption)) ?_ | refine jn ?_ | refine gp1 ?_ ?_ | refine gp2 ?_ ?_ ?_ | refine gp3 ?_ ?_ ?_ ?_ | refine bnd (ldZ0 (by assumption)) ?_ | refine bnd (ldZ1 (by assumption)) ?_ | refine bnd (ldZ2 (by assumption)) ?_ | rfl
   refine ifn (by simp [c1]) (ifn (by simp) ?_)
   dsimp only
   rw [w1 (by omega)]
   exact e' J bot
  ·obtain ⟨h1, e1, k1⟩ := mx_at S.a (sp := sp) k0 K hi' hj hs
   have geq : elimGi R j j i g (i * R + j) = g (i * R + j) := by
    unfold elimGi; rw [pos_div hj, if_neg (by omega)]
   rw [geq] at e1
   have S1 := S.keeps k1
   by_cases c2 : g (i * R + j) = 0
   ·obtain ⟨h', S', e'⟩ := ih (i + 1) h1 (by omega) (S1.congr (fun t _ => by
      unfold elimGi
      by_cases d : t / R < i
      ·rw [if_pos d, if_pos (by omega)]
      ·rw [if_neg d]
       by_cases d2 : t / R < i + 1
       ·have : t / R = i := by omega
        rw [if_pos d2]; unfold elimG; rw [if_neg (by omega), this, c2, mulT_comm, mulT_zero, Nat.xor_zero]
       ·rw [if_neg d2]) (fun t _ => by
      unfold elimUi
      by_cases d : t / R < i
      ·rw [if_pos d, if_pos (by omega)]
      ·rw [if_neg d]
       by_cases d2 : t / R < i + 1
       ·have : t / R = i := by omega
        rw [if_pos d2]; unfold elimU; rw [if_neg (by omega), this, c2, mulT_comm, mulT_zero, Nat.xor_zero]
       ·rw [if_neg d2]))
    refine ⟨h', S', fun J bot => ?_⟩
    rw [iterK_s, ref04_Inverse_l1b]
    with_reducible repeat' first | refine sbn ?_ | refine bnd (ldM3 (by assumption)) ?_ | refine bnd (decM3 _ _ _) ?_ | refine bnd (ldI0 (by assumption)) ?_ | refine bnd (ldI1 (by assumption)) ?_ | refine bnd (ldL2 (by assumption)) ?_ | refine jn ?_ | refine gp1 ?_ ?_ | refine gp2 ?_ ?_ ?_ | refine gp3 ?_ ?_ ?_ ?_ | refine bnd (ldZ0 (by assumption)) ?_ | refine bnd (ldZ1 (by assumption)) ?_ | refine bnd (ldZ2 (by assumption)) ?_ | rfl
    refine ifp (by rw [decide_eq_true_eq]; omega) ?_
    with_reducible repeat' first | refine sbn ?_ | refine bnd (ldM3 (by assumption)) ?_ | refine bnd (decM3 _ _ _) ?_ | refine bnd (ldI0 (by assumption)) ?_ | refine bnd (ldI1 (by assumption)) ?_ | refine bnd (ldL2 (by assumption)) ?_ | refine jn ?_ | refine gp1 ?_ ?_ | refine gp2 ?_ ?_ ?_ | refine gp3 ?_ ?_ ?_ ?_ | refine bnd (ldZ0 (by assumption)) ?_ | refine bnd (ldZ1 (by assumption)) ?_ | refine bnd (ldZ2 (by assumption)) ?_ | rfl
    refine ifp (by simp; omega) ?_
    with_reducible repeat' first | refine sbn ?_ | refine bnd (ldM3 (by assumption)) ?_ | refine bnd (decM3 _ _ _) ?_ | refine bnd (ldI0 (by assumption)) ?_ | refine bnd (ldI1 (by assumption)) ?_ | refine bnd (ldL2 (by assumption)) ?_ | refine jn ?_ | refine gp1 ?_ ?_ | refine gp2 ?_ ?_ ?_ | refine gp3 ?_ ?_ ?_ ?_ | refine bnd (ldZ0 (by assumption)) ?_ | refine bnd (ldZ1 (by assumption)) ?_ | refine bnd (ldZ2 (by assumption)) ?_ | rfl
    refine bnd e1 ?_
    refine ifn (by simp [c2]) ?_
    dsimp only
    rw [w1 (by omega)]
    exact e' J bot
   ·have cl1 := S1.cl
    obtain ⟨h2, e2, k2⟩ := mx_at S1.a (sp := sp) k0 K hi' hj hs
    rw [geq] at e2
    have S2 := S1.keeps k2
    have cl2 := S2.cl
    have gel : g (i * R + j) < 256 := by rw [← geq]; exact S.a.el _ (by omega)
    obtain ⟨h3, e3, m3, c3⟩ := mradd_spec hk K (sp := sp) S2.a hR0 hR hs hi' hj c1 gel
    have S3 := S2.opA D m3 c3
    have cu3 := S3.cu
    obtain ⟨h4, e4, m4, c4⟩ := mradd_spec hk K (sp := sp2) S3.b hR0 hR hs hi' hj c1 gel
    have S4 := S3.opB D m4 c4
    obtain ⟨h', S', e'⟩ := ih (i + 1) h4 (by omega) (S4.congr (fun t _ => by
      have ht := Nat.mod_lt t hR0
      unfold addR
      dsimp only
      rw [elimGi_r g ht]
      unfold elimGi
      by_cases d : t / R = i
      ·rw [if_pos d, if_neg (by omega), if_pos (by omega)]
       unfold elimG
       rw [if_neg (by omega), d]
      ·rw [if_neg d]
       by_cases d2 : t / R < i
       ·rw [if_pos d2, if_pos (by omega)]
       ·rw [if_neg d2, if_neg (by omega)]) (fun t _ => by
      have ht := Nat.mod_lt t hR0
      unfold addR
      dsimp only
      rw [elimUi_r g u ht]
      unfold elimUi
      by_cases d : t / R = i
      ·rw [if_pos d, if_neg (by omega), if_pos (by omega)]
       unfold elimU
       rw [if_neg (by omega), d]
      ·rw [if_neg d]
       by_cases d2 : t / R < i
       ·rw [if_pos d2, if_pos (by omega)]
       ·rw [if_neg d2, if_neg (by omega)]))
    refine ⟨h', S', fun J bot => ?_⟩
    rw [iterK_s, ref04_Inverse_l1b]
    with_reducible repeat' first | refine sbn ?_ | refine bnd (ldM3 (by assumption)) ?_ | refine bnd (decM3 _ _ _) ?_ | refine bnd (ldI0 (by assumption)) ?_ | refine bnd (ldI1 (by assumption)) ?_ | refine bnd (ldL2 (by assumption)) ?_ | refine jn ?_ | refine gp1 ?_ ?_ | refine gp2 ?_ ?_ ?_ | refine gp3 ?_ ?_ ?_ ?_ | refine bnd (ldZ0 (by assumption)) ?_ | refine bnd (ldZ1 (by assumption)) ?_ | refine bnd (ldZ2 (by assumption)) ?_ | rfl
    refine ifp (by rw [decide_eq_true_eq]; omega) ?_
    with_reducible repeat' first | refine sbn ?_ | refine bnd (ldM3 (by assumption)) ?_ | refine bnd (decM3 _ _ _) ?_ | refine bnd (ldI0 (by assumption)) ?_ | refine bnd (ldI1 (by assumption)) ?_ | refine bnd (ldL2 (by assumption)) ?_ | refine jn ?_ | refine gp1 ?_ ?_ | refine gp2 ?_ ?_ ?_ | refine gp3 ?_ ?_ ?_ ?_ | refine bnd (ldZ0 (by assumption)) ?_ | refine bnd (ldZ1 (by assumption)) ?_ | refine bnd (ldZ2 (by assumption)) ?_ | rfl
    refine ifp (by simp; omega) ?_
    with_reducible repeat' first | refine sbn ?_ | refine bnd (ldM3 (by assumption)) ?_ | refine bnd (decM3 _ _ _) ?_ | refine bnd (ldI0 (by assumption)) ?_ | refine bnd (ldI1 (by assumption)) ?_ | refine bnd (ldL2 (by assumption)) ?_ | refine jn ?_ | refine gp1 ?_ ?_ | refine gp2 ?_ ?_ ?_ | refine gp3 ?_ ?_ ?_ ?_ | refine bnd (ldZ0 (by assumption)) ?_ | refine bnd (ldZ1 (by assumption)) ?_ | refine bnd (ldZ2 (by assumption)) ?_ | rfl
    refine bnd e1 ?_
    refine ifp (by simp; omega) ?_
    with_reducible repeat' first | refine sbn ?_ | refine bnd (ldM3 (by assumption)) ?_ | refine bnd (decM3 _ _ _) ?_ | refine bnd (ldI0 (by assumption)) ?_ | refine bnd (ldI1 (by assumption)) ?_ | refine bnd (ldL2 (by assumption)) ?_ | refine jn ?_ | refine gp1 ?_ ?_ | refine gp2 ?_ ?_ ?_ | refine gp3 ?_ ?_ ?_ ?_ | refine bnd (ldZ0 (by assumption)) ?_ | refine bnd (ldZ1 (by assumption)) ?_ | refine bnd (ldZ2 (by assumption)) ?_ | rfl
    refine bnd e2 ?_
    with_reducible repeat' first | refine sbn ?_ | refine bnd (ldM3 (by assumption)) ?_ | refine bnd (decM3 _ _ _) ?_ | refine bnd (ldI0 (by assumption)) ?_ | refine bnd (ldI1 (by assumption)) ?_ | refine bnd (ldL2 (by assumption)) ?_ | refine jn ?_ | refine gp1 ?_ ?_ | refine gp2 ?_ ?_ ?_ | refine gp3 ?_ ?_ ?_ ?_ | refine bnd (ldZ0 (by assumption)) ?_ | refine bnd (ldZ1 (by assumption)) ?_ | refine bnd (ldZ2 (by assumption)) ?_ | rfl
    refine bnd e3 ?_
    with_reducible repeat' first | refine sbn ?_ | refine bnd (ldM3 (by assumption)) ?_ | refine bnd (decM3 _ _ _) ?_ | refine bnd (ldI0 (by assumption)) ?_ | refine bnd (ldI1 (by assumption)) ?_ | refine bnd (ldL2 (by assumption)) ?_ | refine jn ?_ | refine gp1 ?_ ?_ | refine gp2 ?_ ?_ ?_ | refine gp3 ?_ ?_ ?_ ?_ | refine bnd (ldZ0 (by assumption)) ?_ | refine bnd (ldZ1 (by assumption)) ?_ | refine bnd (ldZ2 (by assumption)) ?_ | rfl
    refine bnd e4 ?_
    dsimp only
    rw [w1 (by omega)]
    exact e' J bot
end
section
variable {k0 : Nat} {H0 : AHeap} {B B2 oa ol ou yb R : Nat} {s : Slc} {sp sp2 : Option Nat} {g u : Nat → Nat}
theorem rinv_l0 (hk : 1000 ≤ k0) (K : CallF) (D : DR B B2 oa ol ou yb) (hR : R ≤ 255) : ∀ (m j : Nat) (g u : Nat → Nat) (h : AHeap), j + m = R → SR H0 B B2 oa ol ou yb R s sp sp2 g u h →
  ∃ h', Chg (fun x => x = B ∨ x = B2) H0 h' ∧ if (stepsN R R R m j j g u).1 < R then ∀ J bot, iterK bot (m + 1) (ref04_Inverse_l0b k0 K J) (some ⟨oa, 0, none⟩) (some ⟨yb, 0, none⟩) (some ⟨ol, 0, none⟩) (some ⟨ou, 0, none⟩) (j : Int) h = some (((0, 0, nilS), 40), h')
   else SR H0 B B2 oa ol ou yb R s sp sp2 (stepsN R R R m j j g u).2.1 (stepsN R R R m j j g u).2.2 h' ∧ ∀ J bot, iterK bot (m + 1) (ref04_Inverse_l0b k0 K J) (some ⟨oa, 0, none⟩) (some ⟨yb, 0, none⟩) (some ⟨ol, 0, none⟩) (some ⟨ou, 0, none⟩) (j : Int) h = J (some ⟨yb, 0, none⟩) (some ⟨ou, 0, none⟩) h' := by
 intro m
 have hs : R * R ≤ 100000 := Nat.le_trans (Nat.mul_le_mul hR hR) (by omega)
 induction m with
 | zero =>
  intro j g u h hj S
  obtain rfl : j = R := by omega
  refine ⟨h, S.ch, ?_⟩
  rw [if_neg (show ¬ (stepsN j j j 0 j j g u).1 < j from Nat.lt_irrefl _)]
  refine ⟨S, fun J bot => ?_⟩
  have ca := S.ca
  rw [iterK_s, ref04_Inverse_l0b]
  with_reducible repeat' first | refine sbn ?_ | refine bnd (ldM3 (by assumption)) ?_ | refine bnd (decM3 _ _ _) ?_ | refine bnd (ldI0 (by assumption)) ?_ | refine bnd (ldI1 (by assumption)) ?_ | refine bnd (ldL2 (by assumption)) ?_ | refine jn ?_ | refine gp1 ?_ ?_ | refine gp2 ?_ ?_ ?_ | refine gp3 ?_ ?_ ?_ ?_ | refine bnd (ldZ0 (by assumption)) ?_ | refine bnd (ldZ1 (by assumption)) ?_ | refine bnd (ldZ2 (by assumption)) ?_ | rfl
  exact ifn (by rw [decide_eq_true_eq]; omega) rfl
 | succ m ih =>
  intro j g u h hj S
  have hj' : j < R := by omega
  have hR0 : 0 < R := by omega
  have ca := S.ca
  have cl := S.cl
  obtain ⟨h1, e1, k1⟩ := mrlead_spec hk K (sp := sp) S.a hj' hR hs (show j ≤ R by omega)
  have S1 := S.keeps k1
  have cy1 := S1.cy
  have cl1 := S1.cl
  obtain ⟨l, hl⟩ : ∃ l, l = leadN R j g (R - j) j := ⟨_, rfl⟩
  have hle := leadN_le R j g (R - j) j
  rw [← hl] at e1 hle
  by_cases c1 : l = R
  ·have es : (stepsN R R R (m + 1) j j g u).1 < R := by
    simp only [stepsN]
    rw [if_pos hj', ← hl, if_pos c1]
    have := stepsN_le R R R m (j + 1) j g u
    omega
   refine ⟨h1, S1.ch, ?_⟩
   rw [if_pos es]
   intro J bot
   rw [if_pos c1] at e1
   rw [iterK_s, ref04_Inverse_l0b]
   with_reducible repeat' first | refine sbn ?_ | refine bnd (ldM3 (by assumption)) ?_ | refine bnd (decM3 _ _ _) ?_ | refine bnd (ldI0 (by assumption)) ?_ | refine bnd (ldI1 (by assumption)) ?_ | refine bnd (ldL2 (by assumption)) ?_ | refine jn ?_ | refine gp1 ?_ ?_ | refine gp2 ?_ ?_ ?_ | refine gp3 ?_ ?_ ?_ ?_ | refine bnd (ldZ0 (by assumption)) ?_ | refine bnd (ldZ1 (by assumption)) ?_ | refine bnd (ldZ2 (by assumption)) ?_ | rfl
   refine ifp (by rw [decide_eq_true_eq]; omega) ?_
   with_reducible repeat' first | refine sbn ?_ | refine bnd (ldM3 (by assumption)) ?_ | refine bnd (decM3 _ _ _) ?_ | refine bnd (ldI0 (by assumption)) ?_ | refine bnd (ldI1 (by assumption)) ?_ | refine bnd (ldL2 (by assumption)) ?_ | refine jn ?_ | refine gp1 ?_ ?_ | refine gp2 ?_ ?_ ?_ | refine gp3 ?_ ?_ ?_ ?_ | refine bnd (ldZ0 (by assumption)) ?_ | refine bnd (ldZ1 (by assumption)) ?_ | refine bnd (ldZ2 (by assumption)) ?_ | rfl
   refine bnd e1 (ifp rfl ?_)
   exact zfin cy1 fun x h => some ((x, (40 : Int)), h)
  ·rw [if_neg c1] at e1
   have es : stepsN R R R (m + 1) j j g u = stepsN R R R m (j + 1) (j + 1) (stepG R j l j g) (stepU R R j l j g u) := by
    simp only [stepsN]
    rw [if_pos hj', ← hl, if_neg c1]
   have hlR : l < R := by omega
   obtain ⟨h2, e2, m2, c2⟩ := mrswap_spec hk K (sp := sp) S1.a hR0 hR hs hlR hj'
   have S2 := S1.opA D m2 c2
   have cu2 := S2.cu
   obtain ⟨h3, e3, m3, c3⟩ := mrswap_spec hk K (sp := sp2) S2.b hR0 hR hs hlR hj'
   have S3 := S2.opB D m3 c3
   have cl3 := S3.cl
   obtain ⟨h4, e4, k4⟩ := mx_at S3.a (sp := sp) k0 K hj' hj' hs
   have S4 := S3.keeps k4
   have cl4 := S4.cl
   have pj := le_row (c := R) hj'
   obtain ⟨p, hp⟩ : ∃ p, p = swapR R l j g (j * R + j) := ⟨_, rfl⟩
   have plt : p < 256 := by rw [hp]; exact S3.a.el _ (by omega)
   have pne : p ≠ 0 := by
    have := leadN_ne R j g (R - j) j (by omega)
    rw [← hl] at this
    rw [hp]
    unfold swapR
    rw [pos_div hj', pos_mod hj']
    by_cases e : j = l
    ·rw [if_pos e]; rw [← e] at this; exact this
    ·rw [if_neg e, if_pos rfl]; exact this
   have e5 := rover_spec (k := k0) (by omega) K (a := 1) (by omega) plt pne h4
   rw [← hp] at e4
   obtain ⟨h6, e6, m6, c6⟩ := mrscale_spec hk K (sp := sp) S4.a hR0 hR hs hj' (divT_lt (x := 1) (y := p))
   have S6 := S4.opA D m6 c6
   have cu6 := S6.cu
   obtain ⟨h7, e7, m7, c7⟩ := mrscale_spec hk K (sp := sp2) S6.b hR0 hR hs hj' (divT_lt (x := 1) (y := p))
   have S7 := (S6.opB D m7 c7).congr (scl_div S4.a.el plt pne) (scl_div S4.b.el plt pne)
   obtain ⟨h8, S8, e8⟩ := rinv_l1 hk K D hR (g := divR R j p (swapR R l j g)) (u := divR R j p (swapR R l j u)) hj' R 0 h7 (by omega) (S7.congr (fun t _ => by unfold elimGi; rw [if_neg (Nat.not_lt_zero _)]) (fun t _ => by unfold elimUi; rw [if_neg (Nat.not_lt_zero _)]))
   have eg : elimG R j j (divR R j p (swapR R l j g)) = stepG R j l j g := by rw [hp]; rfl
   have eu : elimU R R j j (divR R j p (swapR R l j g)) (divR R j p (swapR R l j u)) = stepU R R j l j g u := by rw [hp]; rfl
   rw [eg, eu] at S8
   obtain ⟨h', c', e'⟩ := ih (j + 1) _ _ h8 (by omega) S8
   have step : ∀ J bot, iterK bot (m + 1 + 1) (ref04_Inverse_l0b k0 K J) (some ⟨oa, 0, none⟩) (some ⟨yb, 0, none⟩) (some ⟨ol, 0, none⟩) (some ⟨ou, 0, none⟩) (j : Int) h = iterK bot (m + 1) (ref04_Inverse_l0b k0 K J) (some ⟨oa, 0, none⟩) (some ⟨yb, 0, none⟩) (some ⟨ol, 0, none⟩) (some ⟨ou, 0, none⟩) ((j + 1 : Nat) : Int) h8 := fun J bot => by
    rw [iterK_s, ref04_Inverse_l0b]
    with_reducible repeat' first | refine sbn ?_ | refine bnd (ldM3 (by assumption)) ?_ | refine bnd (decM3 _ _ _) ?_ | refine bnd (ldI0 (by assumption)) ?_ | refine bnd (ldI1 (by assumption)) ?_ | refine bnd (ldL2 (by assumption)) ?_ | refine jn ?_ | refine gp1 ?_ ?_ | refine gp2 ?_ ?_ ?_ | refine gp3 ?_ ?_ ?_ ?_ | refine bnd (ldZ0 (by assumption)) ?_ | refine bnd (ldZ1 (by assumption)) ?_ | refine bnd (ldZ2 (by assumption)) ?_ | rfl
    refine ifp (by rw [decide_eq_true_eq]; omega) ?_
    with_reducible repeat' first | refine sbn ?_ | refine bnd (ldM3 (by assumption)) ?_ | refine bnd (decM3 _ _ _) ?_ | refine bnd (ldI0 (by assumption)) ?_ | refine bnd (ldI1 (by assumption)) ?_ | refine bnd (ldL2 (by assumption)) ?_ | refine jn ?_ | refine gp1 ?_ ?_ | refine gp2 ?_ ?_ ?_ | refine gp3 ?_ ?_ ?_ ?_ | refine bnd (ldZ0 (by assumption)) ?_ | refine bnd (ldZ1 (by assumption)) ?_ | refine bnd (ldZ2 (by assumption)) ?_ | rfl
    refine bnd e1 (ifn (by simp) ?_)
    with_reducible repeat' first | refine sbn ?_ | refine bnd (ldM3 (by assumption)) ?_ | refine bnd (decM3 _ _ _) ?_ | refine bnd (ldI0 (by assumption)) ?_ | refine bnd (ldI1 (by assumption)) ?_ | refine bnd (ldL2 (by assumption)) ?_ | refine jn ?_ | refine gp1 ?_ ?_ | refine gp2 ?_ ?_ ?_ | refine gp3 ?_ ?_ ?_ ?_ | refine bnd (ldZ0 (by assumption)) ?_ | refine bnd (ldZ1 (by assumption)) ?_ | refine bnd (ldZ2 (by assumption)) ?_ | rfl
    refine bnd e2 ?_
    with_reducible repeat' first | refine sbn ?_ | refine bnd (ldM3 (by assumption)) ?_ | refine bnd (decM3 _ _ _) ?_ | refine bnd (ldI0 (by assumption)) ?_ | refine bnd (ldI1 (by assumption)) ?_ | refine bnd (ldL2 (by assumption)) ?_ | refine jn ?_ | refine gp1 ?_ ?_ | refine gp2 ?_ ?_ ?_ | refine gp3 ?_ ?_ ?_ ?_ | refine bnd (ldZ0 (by assumption)) ?_ | refine bnd (ldZ1 (by assumption)) ?_ | refine bnd (ldZ2 (by assumption)) ?_ | rfl
    refine bnd e3 ?_
    with_reducible repeat' first | refine sbn ?_ | refine bnd (ldM3 (by assumption)) ?_ | refine bnd (decM3 _ _ _) ?_ | refine bnd (ldI0 (by assumption)) ?_ | refine bnd (ldI1 (by assumption)) ?_ | refine bnd (ldL2 (by assumption)) ?_ | refine jn ?_ | refine gp1 ?_ ?_ | refine gp2 ?_ ?_ ?_ | refine gp3 ?_ ?_ ?_ ?_ | refine bnd (ldZ0 (by assumption)) ?_ | refine bnd (ldZ1 (by assumption)) ?_ | refine bnd (ldZ2 (by assumption)) ?_ | rfl
    refine bnd e4 (bnd e5 ?_)
    with_reducible repeat' first | refine sbn ?_ | refine bnd (ldM3 (by assumption)) ?_ | refine bnd (decM3 _ _ _) ?_ | refine bnd (ldI0 (by assumption)) ?_ | refine bnd (ldI1 (by assumption)) ?_ | refine bnd (ldL2 (by assumption)) ?_ | refine jn ?_ | refine gp1 ?_ ?_ | refine gp2 ?_ ?_ ?_ | refine gp3 ?_ ?_ ?_ ?_ | refine bnd (ldZ0 (by assumption)) ?_ | refine bnd (ldZ1 (by assumption)) ?_ | refine bnd (ldZ2 (by assumption)) ?_ | rfl
    refine bnd e6 ?_
    with_reducible repeat' first | refine sbn ?_ | refine bnd (ldM3 (by assumption)) ?_ | refine bnd (decM3 _ _ _) ?_ | refine bnd (ldI0 (by assumption)) ?_ | refine bnd (ldI1 (by assumption)) ?_ | refine bnd (ldL2 (by assumption)) ?_ | refine jn ?_ | refine gp1 ?_ ?_ | refine gp2 ?_ ?_ ?_ | refine gp3 ?_ ?_ ?_ ?_ | refine bnd (ldZ0 (by assumption)) ?_ | refine bnd (ldZ1 (by assumption)) ?_ | refine bnd (ldZ2 (by assumption)) ?_ | rfl
    refine bnd e7 ?_
    unfold ref04_Inverse_l1
    obtain ⟨bot1, hbot1⟩ := iterK_of (fun _ _ _ _ _ _ _ => none) (ref04_Inverse_l1b k0 K _) (show R + 1 ≤ k0 by omega)
    rw [hbot1]
    refine (e8 _ bot1).trans ?_
    rw [w1 (by omega)]
   refine ⟨h', c', ?_⟩
   rw [es]
   by_cases c2 : (stepsN R R R m (j + 1) (j + 1) (stepG R j l j g) (stepU R R j l j g u)).1 < R
   ·rw [if_pos c2] at e' ⊢
    exact fun J bot => (step J bot).trans (e' J bot)
   ·rw [if_neg c2] at e' ⊢
    exact ⟨e'.1, fun J bot => (step J bot).trans (e'.2 J bot)⟩
end
theorem rinverse_spec {k0 : Nat} (hk : 200000 ≤ k0) (D : CallF) {h : AHeap} {r c : Int} {s : Slc} {xs : List Int} (I : Row encI h s xs) (hl : xs.length ≤ 100000) :
  ∃ h' res, ref04_Inverse k0 D (r, c, s) h = some (res, h') ∧ Out h h' res (invP r c xs) ∧ Keeps h h' := by
 obtain ⟨g1, hg1⟩ : ∃ g1, g1 = h.new (.cells [.int .i64 r, .int .i64 c, .slice s.a s.len s.cap] 57 true 0) := ⟨_, rfl⟩
 have k1 : Keeps h g1 := hg1 ▸ Keeps.new h _
 have n1 : g1.next = h.next + 1 := by rw [hg1]; rfl
 obtain ⟨g2, hg2⟩ : ∃ g2, g2 = g1.new (.cells [.int .i64 0, .int .i64 0, .slice none 0 0] 57 true 0) := ⟨_, rfl⟩
 have k2 : Keeps g1 g2 := hg2 ▸ Keeps.new g1 _
 have n2 : g2.next = g1.next + 1 := by rw [hg2]; rfl
 have k02 := k1.trans k2
 have a2 : g2.get h.next = some (.cells (mcell r c s) 57 true 0) := by rw [k2.oth _ (by omega) (fun f => f), hg1]; simp [mcell]
 have y2 : g2.get g1.next = some (.cells (mcell 0 0 nilS) 57 true 0) := by rw [hg2]; simp [mcell, nilS]
 obtain ⟨g3, e3, k3⟩ := rcheckM_spec (k0 := k0) D (r := r) (c := c) (I.keeps k02) (by omega) (by omega)
 have k03 := k02.trans k3
 have a3 : g3.get h.next = some (.cells (mcell r c s) 57 true 0) := by rw [k3.oth _ (by omega) (fun f => f)]; exact a2
 have y3 : g3.get g1.next = some (.cells (mcell 0 0 nilS) 57 true 0) := by rw [k3.oth _ (by omega) (fun f => f)]; exact y2
 have nx3 := k3.nx
 by_cases ec : chk r c xs = 0
 ·by_cases es : r = c
  ·subst es
   obtain ⟨R, R', g, rfl, eR, hR1, hR2, hC1, hC2, hxs, hel⟩ := chk_ok ec
   obtain rfl : R = R' := by omega
   have hN : R * R ≠ 0 := by have := Nat.mul_pos hR1 hR1; omega
   have hN2 : R * R ≤ 100000 := Nat.le_trans (Nat.mul_le_mul hR2 hR2) (by omega)
   have I3 := I.keeps k03
   rw [hxs] at I3
   obtain ⟨g4, B, e4, k4, nB, m4⟩ := copied_spec (k0 := k0) (R := R) (C := R) D I3 hN hN2 hel
   have nx4 := k4.nx
   obtain ⟨g5, st5, k5, n5, b5⟩ := mvar (h := g4) (e := 57) (r := (R : Int)) (c := (R : Int)) (s := whole B (R * R) (some 2))
   obtain ⟨g6, OB, e6, M6⟩ := rone_spec (show 1000 ≤ k0 by omega) D (h := g5) (n := R) hR1 hR2
   have k6 := M6.ch
   have nx6 := k6.nx
   have nb6 := M6.nb
   have lb6 := M6.lb
   obtain ⟨g7, st7, k7, n7, b7⟩ := mvar (h := g6) (e := 57) (r := (R : Int)) (c := (R : Int)) (s := whole OB (R * R))
   have k37 := ((k4.trans k5).trans k6).trans k7
   have lm := m4.lt
   have o6 : Mx g6 OB (R * R) (oneN R) := ⟨by rw [M6.blk]; unfold matN; rw [mat_ext fun t _ => oneF_N R t], M6.lb, fun t _ => by unfold oneN; split <;> omega⟩
   have S7 : SR g7 B OB h.next g4.next g6.next g1.next R s (some 2) (some 0) g (oneN R) g7 :=
    ⟨((m4.keeps k5).keeps k6).keeps k7, o6.keeps k7, by rw [k37.oth _ (by omega) (fun f => f)]; exact a3, by rw [(k6.trans k7).oth _ (by omega) (fun f => f)]; exact b5, b7, by rw [k37.oth _ (by omega) (fun f => f)]; exact y3,
     by omega, by omega, by omega, by omega, .refl _ _⟩
   have DD' : DR B OB h.next g4.next g6.next g1.next := ⟨by omega, by omega, by omega, by omega, by omega, by omega, by omega, by omega, by omega⟩
   obtain ⟨g8, c8, e8⟩ := rinv_l0 (show 1000 ≤ k0 by omega) D DD' hR2 R 0 g (oneN R) g7 (by omega) S7
   obtain ⟨st, hst⟩ : ∃ st, st = stepsN R R R R 0 0 g (oneN R) := ⟨_, rfl⟩
   rw [← hst] at e8
   have sc := steps_congr (R := R) hR1 hR1 R 0 0 (g := natOf xs) (g' := g) (u := oneN R) (u' := oneN R) (by omega) (by omega) (fun t ht => by rw [hxs]; exact natOf_mat ht) (fun _ _ => rfl)
   rw [← hst] at sc
   have nx8 := c8.nx
   have c08 : Keeps h g8 := (k03.trans k37).beh c8 fun x hx e => by rcases e with e | e <;> omega
   by_cases cr : st.1 < R
   ·rw [if_pos cr] at e8
    refine ⟨g8, ((0, 0, nilS), 40), ?_, ?_, c08⟩
    ·unfold ref04_Inverse
     dsimp only
     rw [← hg1, ← hg2]
     with_reducible repeat' first | refine sbn ?_ | refine bnd (ldM3 (by assumption)) ?_ | refine bnd (decM3 _ _ _) ?_ | refine bnd (ldI0 (by assumption)) ?_ | refine bnd (ldI1 (by assumption)) ?_ | refine bnd (ldL2 (by assumption)) ?_ | refine jn ?_ | refine gp1 ?_ ?_ | refine gp2 ?_ ?_ ?_ | refine gp3 ?_ ?_ ?_ ?_ | refine bnd (ldZ0 (by assumption)) ?_ | refine bnd (ldZ1 (by assumption)) ?_ | refine bnd (ldZ2 (by assumption)) ?_ | rfl
     refine bnd e3 (ifn (by simp [ec]) ?_)
     with_reducible repeat' first | refine sbn ?_ | refine bnd (ldM3 (by assumption)) ?_ | refine bnd (decM3 _ _ _) ?_ | refine bnd (ldI0 (by assumption)) ?_ | refine bnd (ldI1 (by assumption)) ?_ | refine bnd (ldL2 (by assumption)) ?_ | refine jn ?_ | refine gp1 ?_ ?_ | refine gp2 ?_ ?_ ?_ | refine gp3 ?_ ?_ ?_ ?_ | refine bnd (ldZ0 (by assumption)) ?_ | refine bnd (ldZ1 (by assumption)) ?_ | refine bnd (ldZ2 (by assumption)) ?_ | rfl
     refine ifn (by simp) ?_
     with_reducible repeat' first | refine sbn ?_ | refine bnd (ldM3 (by assumption)) ?_ | refine bnd (decM3 _ _ _) ?_ | refine bnd (ldI0 (by assumption)) ?_ | refine bnd (ldI1 (by assumption)) ?_ | refine bnd (ldL2 (by assumption)) ?_ | refine jn ?_ | refine gp1 ?_ ?_ | refine gp2 ?_ ?_ ?_ | refine gp3 ?_ ?_ ?_ ?_ | refine bnd (ldZ0 (by assumption)) ?_ | refine bnd (ldZ1 (by assumption)) ?_ | refine bnd (ldZ2 (by assumption)) ?_ | rfl
     refine bnd e4 (bnd st5 ?_)
     have b5a : g5.get h.next = some (.cells (mcell R R s) 57 true 0) := by rw [(k4.trans k5).oth _ (by omega) (fun f => f)]; exact a3
     with_reducible repeat' first | refine sbn ?_ | refine bnd (ldM3 (by assumption)) ?_ | refine bnd (decM3 _ _ _) ?_ | refine bnd (ldI0 (by assumption)) ?_ | refine bnd (ldI1 (by assumption)) ?_ | refine bnd (ldL2 (by assumption)) ?_ | refine jn ?_ | refine gp1 ?_ ?_ | refine gp2 ?_ ?_ ?_ | refine gp3 ?_ ?_ ?_ ?_ | refine bnd (ldZ0 (by assumption)) ?_ | refine bnd (ldZ1 (by assumption)) ?_ | refine bnd (ldZ2 (by assumption)) ?_ | rfl
     refine bnd e6 (bnd st7 ?_)
     with_reducible repeat' first | refine sbn ?_ | refine bnd (ldM3 (by assumption)) ?_ | refine bnd (decM3 _ _ _) ?_ | refine bnd (ldI0 (by assumption)) ?_ | refine bnd (ldI1 (by assumption)) ?_ | refine bnd (ldL2 (by assumption)) ?_ | refine jn ?_ | refine gp1 ?_ ?_ | refine gp2 ?_ ?_ ?_ | refine gp3 ?_ ?_ ?_ ?_ | refine bnd (ldZ0 (by assumption)) ?_ | refine bnd (ldZ1 (by assumption)) ?_ | refine bnd (ldZ2 (by assumption)) ?_ | rfl
     unfold ref04_Inverse_l0
     obtain ⟨bot, hbot⟩ := iterK_of (fun _ _ _ _ _ _ => none) (ref04_Inverse_l0b k0 D _) (show R + 1 ≤ k0 by omega)
     rw [hbot]
     exact e8 _ bot
    ·unfold invP
     rw [if_neg (fun h => h ec), if_neg (fun h => h rfl)]
     dsimp only
     rw [if_pos (show (stepsN (R : Int).toNat (R : Int).toNat (R : Int).toNat (R : Int).toNat 0 0 (natOf xs) (oneN (R : Int).toNat)).1 < (R : Int).toNat from by rw [Int.toNat_natCast, sc.1]; exact cr)]
     exact Out.no _
   ·rw [if_neg cr] at e8
    obtain ⟨S8, e8⟩ := e8
    have cu8 := S8.cu
    have cy8 := S8.cy
    refine ⟨g8.set g1.next (.cells (mcell R R (whole OB (R * R))) 57 true 0), ((R, R, whole OB (R * R)), 0), ?_, ?_, c08.beh (T := (· = g1.next)) (Chg.set (.inr rfl)) fun x hx e => by
     have e : x = g1.next := e
     omega⟩
    ·unfold ref04_Inverse
     dsimp only
     rw [← hg1, ← hg2]
     with_reducible repeat' first | refine sbn ?_ | refine bnd (ldM3 (by assumption)) ?_ | refine bnd (decM3 _ _ _) ?_ | refine bnd (ldI0 (by assumption)) ?_ | refine bnd (ldI1 (by assumption)) ?_ | refine bnd (ldL2 (by assumption)) ?_ | refine jn ?_ | refine gp1 ?_ ?_ | refine gp2 ?_ ?_ ?_ | refine gp3 ?_ ?_ ?_ ?_ | refine bnd (ldZ0 (by assumption)) ?_ | refine bnd (ldZ1 (by assumption)) ?_ | refine bnd (ldZ2 (by assumption)) ?_ | rfl
     refine bnd e3 (ifn (by simp [ec]) ?_)
     with_reducible repeat' first | refine sbn ?_ | refine bnd (ldM3 (by assumption)) ?_ | refine bnd (decM3 _ _ _) ?_ | refine bnd (ldI0 (by assumption)) ?_ | refine bnd (ldI1 (by assumption)) ?_ | refine bnd (ldL2 (by assumption)) ?_ | refine jn ?_ | refine gp1 ?_ ?_ | refine gp2 ?_ ?_ ?_ | refine gp3 ?_ ?_ ?_ ?_ | refine bnd (ldZ0 (by assumption)) ?_ | refine bnd (ldZ1 (by assumption)) ?_ | refine bnd (ldZ2 (by assumption)) ?_ | rfl
     refine ifn (by simp) ?_
     with_reducible repeat' first | refine sbn ?_ | refine bnd (ldM3 (by assumption)) ?_ | refine bnd (decM3 _ _ _) ?_ | refine bnd (ldI0 (by assumption)) ?_ | refine bnd (ldI1 (by assumption)) ?_ | refine bnd (ldL2 (by assumption)) ?_ | refine jn ?_ | refine gp1 ?_ ?_ | refine gp2 ?_ ?_ ?_ | refine gp3 ?_ ?_ ?_ ?_ | refine bnd (ldZ0 (by assumption)) ?_ | refine bnd (ldZ1 (by assumption)) ?_ | refine bnd (ldZ2 (by assumption)) ?_ | rfl
     refine bnd e4 (bnd st5 ?_)
     have b5a : g5.get h.next = some (.cells (mcell R R s) 57 true 0) := by rw [(k4.trans k5).oth _ (by omega) (fun f => f)]; exact a3
     with_reducible repeat' first | refine sbn ?_ | refine bnd (ldM3 (by assumption)) ?_ | refine bnd (decM3 _ _ _) ?_ | refine bnd (ldI0 (by assumption)) ?_ | refine bnd (ldI1 (by assumption)) ?_ | refine bnd (ldL2 (by assumption)) ?_ | refine jn ?_ | refine gp1 ?_ ?_ | refine gp2 ?_ ?_ ?_ | refine gp3 ?_ ?_ ?_ ?_ | refine bnd (ldZ0 (by assumption)) ?_ | refine bnd (ldZ1 (by assumption)) ?_ | refine bnd (ldZ2 (by assumption)) ?_ | rfl
     refine bnd e6 (bnd st7 ?_)
     with_reducible repeat' first | refine sbn ?_ | refine bnd (ldM3 (by assumption)) ?_ | refine bnd (decM3 _ _ _) ?_ | refine bnd (ldI0 (by assumption)) ?_ | refine bnd (ldI1 (by assumption)) ?_ | refine bnd (ldL2 (by assumption)) ?_ | refine jn ?_ | refine gp1 ?_ ?_ | refine gp2 ?_ ?_ ?_ | refine gp3 ?_ ?_ ?_ ?_ | refine bnd (ldZ0 (by assumption)) ?_ | refine bnd (ldZ1 (by assumption)) ?_ | refine bnd (ldZ2 (by assumption)) ?_ | rfl
     unfold ref04_Inverse_l0
     obtain ⟨bot, hbot⟩ := iterK_of (fun _ _ _ _ _ _ => none) (ref04_Inverse_l0b k0 D _) (show R + 1 ≤ k0 by omega)
     rw [hbot]
     refine (e8 _ bot).trans ?_
     exact yfin cu8 cy8 fun x h => some ((x, (0 : Int)), h)
    ·unfold invP
     rw [if_neg (fun h => h ec), if_neg (fun h => h rfl)]
     dsimp only
     rw [if_neg (show ¬ (stepsN (R : Int).toNat (R : Int).toNat (R : Int).toNat (R : Int).toNat 0 0 (natOf xs) (oneN (R : Int).toNat)).1 < (R : Int).toNat from by rw [Int.toNat_natCast, sc.1]; exact cr)]
     simp only [Int.toNat_natCast]
     have u9 : Mx (g8.set g1.next (.cells (mcell R R (whole OB (R * R))) 57 true 0)) OB (R * R) st.2.2 := S8.b.chg (S := (· = g1.next)) (Chg.set (.inr rfl)) (by omega)
     exact ⟨rfl, rfl, rfl, (u9.congr fun t ht => (sc.2.2 t ht).symm).inM (sp := some 0) rfl, whole_off (by omega)⟩
  ·refine ⟨g3, ((0, 0, nilS), 4), ?_, ?_, k03⟩
   ·unfold ref04_Inverse
    dsimp only
    rw [← hg1, ← hg2]
    with_reducible repeat' first | refine sbn ?_ | refine bnd (ldM3 (by assumption)) ?_ | refine bnd (decM3 _ _ _) ?_ | refine bnd (ldI0 (by assumption)) ?_ | refine bnd (ldI1 (by assumption)) ?_ | refine bnd (ldL2 (by assumption)) ?_ | refine jn ?_ | refine gp1 ?_ ?_ | refine gp2 ?_ ?_ ?_ | refine gp3 ?_ ?_ ?_ ?_ | refine bnd (ldZ0 (by assumption)) ?_ | refine bnd (ldZ1 (by assumption)) ?_ | refine bnd (ldZ2 (by assumption)) ?_ | rfl
    refine bnd e3 (ifn (by simp [ec]) ?_)
    with_reducible repeat' first | refine sbn ?_ | refine bnd (ldM3 (by assumption)) ?_ | refine bnd (decM3 _ _ _) ?_ | refine bnd (ldI0 (by assumption)) ?_ | refine bnd (ldI1 (by assumption)) ?_ | refine bnd (ldL2 (by assumption)) ?_ | refine jn ?_ | refine gp1 ?_ ?_ | refine gp2 ?_ ?_ ?_ | refine gp3 ?_ ?_ ?_ ?_ | refine bnd (ldZ0 (by assumption)) ?_ | refine bnd (ldZ1 (by assumption)) ?_ | refine bnd (ldZ2 (by assumption)) ?_ | rfl
    refine ifp (by simpa using es) ?_
    exact zfin y3 fun x h => some ((x, (4 : Int)), h)
   ·unfold invP
    rw [if_neg (fun h => h ec), if_pos es]
    exact Out.no _
 ·refine ⟨g3, ((0, 0, nilS), chk r c xs), ?_, ?_, k03⟩
  ·unfold ref04_Inverse
   dsimp only
   rw [← hg1, ← hg2]
   with_reducible repeat' first | refine sbn ?_ | refine bnd (ldM3 (by assumption)) ?_ | refine bnd (decM3 _ _ _) ?_ | refine bnd (ldI0 (by assumption)) ?_ | refine bnd (ldI1 (by assumption)) ?_ | refine bnd (ldL2 (by assumption)) ?_ | refine jn ?_ | refine gp1 ?_ ?_ | refine gp2 ?_ ?_ ?_ | refine gp3 ?_ ?_ ?_ ?_ | refine bnd (ldZ0 (by assumption)) ?_ | refine bnd (ldZ1 (by assumption)) ?_ | refine bnd (ldZ2 (by assumption)) ?_ | rfl
   refine bnd e3 (ifp (by simpa using ec) ?_)
   exact zfin y3 fun x h => some ((x, chk r c xs), h)
  ·unfold invP
   rw [if_pos ec]
   exact Out.no _
end Gq
namespace Gq
open Go Gx
end Gq
namespace Gq
open Go Gx Go.Proofs
end Gq
namespace Gq
open Go Gx
theorem toNat_ofNat (n : Nat) : (UInt8.ofNat n).toNat = n % 256 := by simp
end Gq
namespace Gq
open Go Gx Go.Proofs
theorem ldI_at {h : AHeap} {b o : Nat} {sp : Option Nat} {c : List Value} {e : TypeId} {r : Bool} {fz : Nat} {k : IntKind} {x : Int} (hb : h.get b = some (.cells c e r fz)) (hc : c[o]? = some (.int k x)) : ldI k ⟨b, o, sp⟩ h = some x := by
 simp [ldI, AHeap.rd1, hb, hc, decI]
theorem ldS_at {h : AHeap} {b o : Nat} {sp : Option Nat} {c : List Value} {e : TypeId} {r : Bool} {fz : Nat} {x : ByteArray} (hb : h.get b = some (.cells c e r fz)) (hc : c[o]? = some (.string x)) : ldS ⟨b, o, sp⟩ h = some x := by
 simp [ldS, AHeap.rd1, hb, hc, decS]
theorem ldA_at {h : AHeap} {b n : Nat} {sp : Option Nat} {c : List Value} {e : TypeId} {r : Bool} {fz : Nat} (hb : h.get b = some (.cells c e r fz)) (hc : c.length = n) : ldA n ⟨b, 0, sp⟩ h = some c := by
 subst hc; exact rdL_all hb
end Gq
namespace Gq
open Go Gx Go.Proofs
def Rdr (h : AHeap) (b : Nat) (s : ByteArray) (e : Int) : Prop := h.get b = some (.cells [.string s, .int .i64 e] 108 true 0)
theorem Rdr.chg {S : Nat → Prop} {h h' : AHeap} {b : Nat} {s : ByteArray} {e : Int} (R : Rdr h b s e) (c : Chg S h h') (hb : ¬ S b) (hl : b < h.next) : Rdr h' b s e := (c.oth b hl hb).trans R
end Gq
namespace Gq
open Go Gx Go.Proofs
abbrev Sh := Int × Int × Int × Int × ByteArray × ByteArray
theorem ba_app (a b : List UInt8) : (⟨⟨a⟩⟩ : ByteArray) ++ (⟨⟨b⟩⟩ : ByteArray) = ⟨⟨a ++ b⟩⟩ := by
 apply bl_inj
 simp [bl]
end Gq
namespace Gq
open Go Gx Go.Proofs
theorem sw1 {H1 : AHeap} {F : AHeap → Option Value} {v : Value} (h : F H1 = some v) : SameW [H1] F v := by
 intro H hH; simp only [List.mem_singleton] at hH; subst hH; exact h
theorem sw2 {H1 H2 : AHeap} {F : AHeap → Option Value} {v : Value} (h : F H1 = some v) (h' : F H2 = some v) : SameW [H1, H2] F v := by
 intro H hH
 simp only [List.mem_cons, List.not_mem_nil, or_false] at hH
 rcases hH with rfl | rfl
 ·exact h
 ·exact h'
theorem stL_at {h : AHeap} {b n : Nat} {sp : Option Nat} {c cs : List Value} {e : TypeId} (hb : h.get b = some (.cells c e true 0)) (hc : c.length = n) (hl : cs.length = n) (ho : allOne cs = true) (hn : n ≠ 0) :
  stL n ⟨b, 0, sp⟩ cs h = some (h.set b (.cells cs e true 0)) := by
 unfold stL
 rw [hl, Nat.beq_refl, cond_true]
 cases cs with
 | nil => simp at hl; omega
 | cons v t =>
  simp only [AHeap.wrL, hb]
  rw [if_pos ⟨by omega, by omega, ho⟩]
  simp only [splice, List.take_zero, List.nil_append, Nat.zero_add]
  rw [List.drop_eq_nil_of_le (by omega), List.append_nil]
theorem eqSh (x : Sh) : ((x.1 == x.1) && ((x.2.1 == x.2.1) && ((x.2.2.1 == x.2.2.1) && ((x.2.2.2.1 == x.2.2.2.1) && ((x.2.2.2.2.1 == x.2.2.2.2.1) && (x.2.2.2.2.2 == x.2.2.2.2.2)))))) = true := by simp [ba_beq]
end Gq
namespace Gq
open Go Gx Go.Proofs
theorem set_get (h : AHeap) (b : Nat) (B : ABlk) : (h.set b B).get b = some B := by simp
structure PL (h : AHeap) (pb f2 B sb fb k m : Nat) : Prop where
 blk : h.get pb = some (.cells [.int .i64 (k : Int), .int .i64 (m : Int), .pointer (some ⟨f2, 0, none⟩), .pointer (some ⟨sb, 0, none⟩), .int .i64 ((k + m : Nat) : Int), .int .i64 (k : Int), .slice (some ⟨B, 0, some 0⟩) ((k + m) * k) ((k + m) * k)] 56 true 0)
 fld : Fld h f2
 mat : h.get B = some (outB encI 3 (mat ((k + m) * k) (cau k)))
 spc : Spc h sb fb
 lp : pb < h.next
 lf : f2 < h.next
 lb : B < h.next
 n1 : B ≠ f2
 n2 : pb ≠ f2
 n3 : sb ≠ f2
 n4 : fb ≠ f2
 n5 : B ≠ fb
 n6 : pb ≠ fb
 n7 : B ≠ sb
 n8 : pb ≠ sb
theorem PL.chg {S : Nat → Prop} {h h' : AHeap} {pb f2 B sb fb k m : Nat} (p : PL h pb f2 B sb fb k m) (c : Chg S h h') (a1 : ¬ S pb) (a2 : ¬ S f2) (a3 : ¬ S B) (a4 : ¬ S sb) (a5 : ¬ S fb) : PL h' pb f2 B sb fb k m :=
 ⟨(c.oth _ p.lp a1).trans p.blk, fldchg p.fld p.lf c a2, (c.oth _ p.lb a3).trans p.mat, p.spc.chg c a4 a5, Nat.lt_of_lt_of_le p.lp c.nx, Nat.lt_of_lt_of_le p.lf c.nx, Nat.lt_of_lt_of_le p.lb c.nx, p.n1, p.n2, p.n3, p.n4, p.n5, p.n6, p.n7, p.n8⟩
theorem PL.keeps {h h' : AHeap} {pb f2 B sb fb k m : Nat} (p : PL h pb f2 B sb fb k m) (c : Keeps h h') : PL h' pb f2 B sb fb k m :=
 p.chg c (fun f => f) (fun f => f) (fun f => f) (fun f => f) (fun f => f)
theorem PL.fs2 {h h' : AHeap} {pb f2 B sb fb k m : Nat} (p : PL h pb f2 B sb fb k m) (s : FS f2 h h') : PL h' pb f2 B sb fb k m :=
 ⟨(s.oth _ p.lp p.n2).trans p.blk, s.fld, (s.oth _ p.lb p.n1).trans p.mat, p.spc.chg s.chg p.n3 p.n4, Nat.lt_of_lt_of_le p.lp s.nx, Nat.lt_of_lt_of_le p.lf s.nx, Nat.lt_of_lt_of_le p.lb s.nx, p.n1, p.n2, p.n3, p.n4, p.n5, p.n6, p.n7, p.n8⟩
theorem snew_spec {k0 : Nat} (hk : 1000 ≤ k0) (h : AHeap) {k m : Nat} (hk1 : 0 < k) (hR : k + m ≤ 255) :
  ∃ h' pb f2 B sb fb, stripe_New k0 (DD k0) (k : Int) (m : Int) h = some ((some ⟨pb, 0, none⟩, 0), h') ∧ PL h' pb f2 B sb fb k m ∧ Keeps h h' ∧ h.next ≤ pb ∧ h.next ≤ f2 ∧ h.next ≤ B ∧ h.next ≤ sb ∧ h.next ≤ fb := by
 simp only [stripe_New]
 obtain ⟨h1, r1, k1, S1, n1⟩ := mnew_spec k0 (DD k0) h
 obtain ⟨h2, B, r2, S2, M⟩ := cauchy_spec hk (k := k) (m := m) S1 hk1 hR
 obtain ⟨h4, r4, k4, n4, b4⟩ := mvar (h := h2) (e := 50) (r := ((k + m : Nat) : Int)) (c := (k : Int)) (s := whole B ((k + m) * k))
 have hs := S2.ls
 have hf := S2.lf
 have hB := M.lb
 have hnb := M.nb
 let h5 := h4.new (.cells fresh 98 true 0)
 have k5 : Keeps h4 h5 := Keeps.new _ _
 have b5 : h5.get h2.next = some (.cells (mcell ((k + m : Nat) : Int) (k : Int) (whole B ((k + m) * k))) 50 true 0) := (k5.oth _ (by omega) (fun f => f)).trans b4
 have q4 := ldA_at (sp := none) b4 (show (mcell ((k + m : Nat) : Int) (k : Int) (whole B ((k + m) * k))).length = 3 from rfl)
 have q5 := ldA_at (sp := none) b5 (show (mcell ((k + m : Nat) : Int) (k : Int) (whole B ((k + m) * k))).length = 3 from rfl)
 let h6 := h5.new (.cells [.int .i64 (k : Int), .int .i64 (m : Int), .pointer (some ⟨h4.next, 0, none⟩), .pointer (some ⟨h.next + 1, 0, none⟩), .int .i64 ((k + m : Nat) : Int), .int .i64 (k : Int), .slice (some ⟨B, 0, some 0⟩) ((k + m) * k) ((k + m) * k)] 56 true 0)
 have k6 : Keeps h5 h6 := Keeps.new _ _
 have K26 : Keeps h2 h6 := k4.trans (k5.trans k6)
 have n5 : h5.next = h4.next + 1 := rfl
 refine ⟨h6, h5.next, h4.next, B, h.next + 1, h.next, ?_, ⟨?_, ?_, ?_, S2.keeps K26, ?_, ?_, ?_, ?_, ?_, ?_, ?_, ?_, ?_, ?_, ?_⟩, ?_, ?_, ?_, ?_, ?_, ?_⟩
 ·refine bnd r1 (bnd r2 (bnd r4 ?_))
  refine ifn (by simp) ?_
  refine bnd (new_spec k0 (DD k0) h4) ?_
  refine bnd q5 (gp (sw1 (bnd q4 rfl)) ?_)
  exact bnd rfl rfl
 ·show h6.get h5.next = _; simp [h6]
 ·exact fldchg (fld_new h4) (by show h4.next < h4.next + 1; omega) k6 (fun f => f)
 ·exact (K26.oth _ hB (fun f => f)).trans M.blk
 ·show h5.next < h5.next + 1; omega
 ·show h4.next < h4.next + 1 + 1; omega
 ·have := K26.nx; omega
 ·omega
 ·omega
 ·omega
 ·omega
 ·omega
 ·omega
 ·omega
 ·omega
 ·exact Chg.beh (k1.trans (Chg.refl _ _)) (M.ch.trans (Chg.keeps K26)) (fun x hx e => by have : x = h.next := e; omega)
 ·omega
 ·omega
 ·omega
 ·omega
 ·omega
theorem snew_no {k0 : Nat} (h : AHeap) {k m : Int} (hb : k < 1 ∨ m < 0 ∨ k > 255 ∨ m > 255 - k) : ∃ h', stripe_New k0 (DD k0) k m h = some ((none, 1), h') ∧ Keeps h h' := by
 simp only [stripe_New]
 obtain ⟨h1, r1, k1, S1, n1⟩ := mnew_spec k0 (DD k0) h
 obtain ⟨h2, r2, k2⟩ := cauchy_no k0 (DD k0) (some ⟨h.next + 1, 0, none⟩) h1 hb
 obtain ⟨h4, r4, k4, n4, b4⟩ := mvar (h := h2) (e := 50) (r := 0) (c := 0) (s := nilS)
 refine ⟨h4, ?_, k1.trans (k2.trans k4)⟩
 refine bnd r1 (bnd r2 (bnd r4 ?_))
 exact ifp (by simp) rfl
structure PR (h : AHeap) (pb B k m : Nat) : Prop where
 blk : h.get pb = some (.cells [.int .i64 (k : Int), .int .i64 (m : Int), .int .i64 ((k + m : Nat) : Int), .int .i64 (k : Int), .slice (some ⟨B, 0, some 0⟩) ((k + m) * k) ((k + m) * k)] 61 true 0)
 mat : h.get B = some (outB encI 3 (mat ((k + m) * k) (cau k)))
 lp : pb < h.next
 lb : B < h.next
theorem PR.chg {S : Nat → Prop} {h h' : AHeap} {pb B k m : Nat} (p : PR h pb B k m) (c : Chg S h h') (a1 : ¬ S pb) (a3 : ¬ S B) : PR h' pb B k m :=
 ⟨(c.oth _ p.lp a1).trans p.blk, (c.oth _ p.lb a3).trans p.mat, Nat.lt_of_lt_of_le p.lp c.nx, Nat.lt_of_lt_of_le p.lb c.nx⟩
theorem PR.keeps {h h' : AHeap} {pb B k m : Nat} (p : PR h pb B k m) (c : Keeps h h') : PR h' pb B k m := p.chg c (fun f => f) (fun f => f)
theorem rsnew_spec {k0 : Nat} (hk : 1000 ≤ k0) (D : CallF) (h : AHeap) {k m : Nat} (hk1 : 0 < k) (hR : k + m ≤ 255) :
  ∃ h' pb B, ref05_New k0 D (k : Int) (m : Int) h = some ((some ⟨pb, 0, none⟩, 0), h') ∧ PR h' pb B k m ∧ Keeps h h' ∧ h.next ≤ pb ∧ h.next ≤ B := by
 simp only [ref05_New]
 obtain ⟨h2, B, r2, M⟩ := rcauchy_spec hk D (h := h) (k := k) (m := m) hk1 hR
 obtain ⟨h4, r4, k4, n4, b4⟩ := mvar (h := h2) (e := 57) (r := ((k + m : Nat) : Int)) (c := (k : Int)) (s := whole B ((k + m) * k))
 have hB := M.lb
 have hnb := M.nb
 have hn2 := M.ch.nx
 have q4 := ldA_at (sp := none) b4 (show (mcell ((k + m : Nat) : Int) (k : Int) (whole B ((k + m) * k))).length = 3 from rfl)
 let h6 := h4.new (.cells [.int .i64 (k : Int), .int .i64 (m : Int), .int .i64 ((k + m : Nat) : Int), .int .i64 (k : Int), .slice (some ⟨B, 0, some 0⟩) ((k + m) * k) ((k + m) * k)] 61 true 0)
 have k6 : Keeps h4 h6 := Keeps.new _ _
 refine ⟨h6, h4.next, B, ?_, ⟨?_, ?_, ?_, ?_⟩, M.ch.trans (k4.trans k6), ?_, hnb⟩
 ·refine bnd r2 (bnd r4 ?_)
  refine ifn (by simp) ?_
  exact bnd q4 (bnd rfl rfl)
 ·show h6.get h4.next = _; simp [h6]
 ·exact ((k4.trans k6).oth _ hB (fun f => f)).trans M.blk
 ·show h4.next < h4.next + 1; omega
 ·have := (k4.trans k6).nx; omega
 ·omega
theorem rsnew_no {k0 : Nat} (D : CallF) (h : AHeap) {k m : Int} (hb : k < 1 ∨ m < 0 ∨ k > 255 ∨ m > 255 - k) : ∃ h', ref05_New k0 D k m h = some ((none, 1), h') ∧ Keeps h h' := by
 simp only [ref05_New]
 obtain ⟨h2, r2, k2⟩ := rcauchy_no k0 D h hb
 obtain ⟨h4, r4, k4, n4, b4⟩ := mvar (h := h2) (e := 57) (r := 0) (c := 0) (s := nilS)
 refine ⟨h4, ?_, k2.trans k4⟩
 refine bnd r2 (bnd r4 ?_)
 exact ifp (by simp) rfl
end Gq
namespace Gq
open Go Gx Go.Proofs
def nE (k L : Nat) : Nat := (L + k - 1) / k
def padL (k : Nat) (s : ByteArray) : List UInt8 := bl s ++ List.replicate (k * nE k s.size - s.size) 0
def pieceB (k : Nat) (s : ByteArray) (i : Nat) : ByteArray := ⟨⟨((padL k s).take ((i + 1) * nE k s.size)).drop (i * nE k s.size)⟩⟩
def piecesL (k : Nat) (s : ByteArray) : List ByteArray := (List.range k).map (pieceB k s)
def rowC (k i : Nat) : List Int := (List.range k).map fun j => cau k (i * k + j)
def shardB (k : Nat) (s : ByteArray) (i : Nat) : ByteArray := if i < k then pieceB k s i else (mixA (piecesL k s) (rowC k i)).1
def shardsL (k m : Nat) (s : ByteArray) : List ByteArray := (List.range (k + m)).map (shardB k s)
theorem nE_ge {k : Nat} (hk : 0 < k) (L : Nat) : L ≤ k * nE k L := by
 unfold nE
 have := Nat.div_add_mod (L + k - 1) k
 have h2 := Nat.mod_lt (L + k - 1) hk
 omega
theorem nE_le {k : Nat} (_hk : 0 < k) (L : Nat) : k * nE k L ≤ L + k - 1 := Nat.mul_div_le _ _
theorem padL_length {k : Nat} (hk : 0 < k) (s : ByteArray) : (padL k s).length = k * nE k s.size := by
 have := nE_ge hk s.size
 simp only [padL, List.length_append, bl_length, List.length_replicate]; omega
theorem pieceB_size {k i : Nat} (hk : 0 < k) (s : ByteArray) (hi : i < k) : (pieceB k s i).size = nE k s.size := by
 have h1 : (i + 1) * nE k s.size ≤ k * nE k s.size := Nat.mul_le_mul_right _ hi
 rw [pieceB, size_mk, List.length_drop, List.length_take, padL_length hk, Nat.min_eq_left h1, Nat.add_mul]; omega
theorem piecesL_length (k : Nat) (s : ByteArray) : (piecesL k s).length = k := by simp [piecesL]
theorem rowC_length (k i : Nat) : (rowC k i).length = k := by simp [rowC]
theorem pieces_mem {k : Nat} (hk : 0 < k) {s x : ByteArray} (hx : x ∈ piecesL k s) : x.size = nE k s.size := by
 obtain ⟨i, hi, rfl⟩ := List.mem_map.1 hx
 exact pieceB_size hk s (List.mem_range.1 hi)
def emT : ByteArray := ⟨#[]⟩
def filT (f : Nat → ByteArray) (T i : Nat) : List ByteArray := (List.range i).map f ++ List.replicate (T - i) emT
theorem filT_length {f : Nat → ByteArray} {T i : Nat} (hi : i ≤ T) : (filT f T i).length = T := by simp [filT]; omega
theorem filT_get {f : Nat → ByteArray} {T i j : Nat} (hj : j < i) : (filT f T i)[j]? = some (f j) := by
 unfold filT
 rw [List.getElem?_append_left (by simpa using hj)]
 simp [hj]
theorem filT_all {f : Nat → ByteArray} {T : Nat} : filT f T T = (List.range T).map f := by simp [filT]
theorem fil_push {f : Nat → ByteArray} {T i : Nat} {h : AHeap} {ob : Nat} {x : ByteArray} (hb : h.get ob = some (outB encS 9 (filT f T i))) (hi : i < T) (hx : x = f i) :
  appendA 1 16 9 h (⟨some ⟨ob, 0, some 0⟩, i, T⟩ : Slc) [.string x] 1 = some (⟨some ⟨ob, 0, some 0⟩, i + 1, T⟩, h.set ob (outB encS 9 (filT f T (i + 1)))) := by
 subst hx
 unfold appendA
 rw [if_pos (show i + 1 ≤ T from hi)]
 simp only [Nat.one_ne_zero, if_false]
 have hl : ((filT f T i).map encS).length = T := by rw [List.length_map, filT_length (by omega)]
 have hw : h.wrL ob (0 + i * 1) [Value.string (f i)] = some (h.set ob (outB encS 9 (filT f T (i + 1)))) := by
  simp only [AHeap.wrL, hb, outB]
  rw [if_pos ⟨by rw [hl]; simp; omega, by omega, rfl⟩]
  congr 3
  simp only [splice, Nat.zero_add, Nat.mul_one, List.length_singleton]
  unfold filT
  have e1 : ((List.range i).map f).length = i := by simp
  rw [← List.map_take, ← List.map_drop, List.take_left' e1, List.drop_append, e1, List.drop_eq_nil_of_le (by rw [e1]; omega), List.nil_append, show i + 1 - i = 1 by omega, List.drop_replicate, List.range_succ, List.map_append, List.map_append, List.map_append, show T - i - 1 = T - (i + 1) by omega]
  simp [encS]
 rw [hw]; rfl
def eachA (k : Nat) (long : Int) : Int × Int := if long < 0 ∨ long > 65536 then (0, 1) else (Int.tdiv (long + k - 1) k, 0)
theorem eachA_nat {k L : Nat} (hk : 0 < k) (hL : L ≤ 65536) : eachA k (L : Int) = (((nE k L : Nat) : Int), 0) := by
 unfold eachA
 rw [if_neg (by omega)]
 have : (L : Int) + k - 1 = ((L + k - 1 : Nat) : Int) := by omega
 rw [this]; rfl
theorem each_spec (k0 : Nat) (D : CallF) {h : AHeap} {pb f2 B sb fb k m : Nat} (p : PL h pb f2 B sb fb k m) (hk : 0 < k) (hk2 : k ≤ 255) (long : Int) : stripe_Plan_Each k0 D (some ⟨pb, 0, none⟩) long h = some (eachA k long, h) := by
 simp only [stripe_Plan_Each]
 have l0 : ldI .i64 ⟨pb, 0, none⟩ h = some (k : Int) := ldI_at p.blk rfl
 unfold eachA
 by_cases c1 : long < 0
 ·refine jn (ifp (decide_eq_true c1) (ifp rfl ?_)); rw [if_pos (.inl c1)]
 ·refine jn (ifn (by simpa using c1) ?_)
  by_cases c2 : long > 65536
  ·refine ifp (decide_eq_true c2) ?_; rw [if_pos (.inr c2)]
  ·refine ifn (by simpa using c2) ?_
   rw [if_neg (by omega)]
   refine bnd rfl (bnd l0 (bnd rfl (bnd l0 ?_)))
   refine ifn (by omega) ?_
   have q2 : Int.tdiv (long + (k : Int) - 1) (k : Int) ≤ long + k - 1 := by rw [Int.tdiv_eq_ediv_of_nonneg (by omega)]; exact Int.ediv_le_self _ (by omega)
   have q1 : 0 ≤ Int.tdiv (long + (k : Int) - 1) (k : Int) := Int.tdiv_nonneg (by omega) (by omega)
   rw [w64 (long + (k : Int)) (by omega), w64 (long + (k : Int) - 1) (by omega), w64 _ (by omega)]
theorem reach_spec (k0 : Nat) (D : CallF) {h : AHeap} {pb B k m : Nat} (p : PR h pb B k m) (hk : 0 < k) (hk2 : k ≤ 255) (long : Int) : ref05_Plan_Each k0 D (some ⟨pb, 0, none⟩) long h = some (eachA k long, h) := by
 simp only [ref05_Plan_Each]
 have l0 : ldI .i64 ⟨pb, 0, none⟩ h = some (k : Int) := ldI_at p.blk rfl
 unfold eachA
 by_cases c1 : long < 0
 ·refine jn (ifp (decide_eq_true c1) (ifp rfl ?_)); rw [if_pos (.inl c1)]
 ·refine jn (ifn (by simpa using c1) ?_)
  by_cases c2 : long > 65536
  ·refine ifp (decide_eq_true c2) ?_; rw [if_pos (.inr c2)]
  ·refine ifn (by simpa using c2) ?_
   rw [if_neg (by omega)]
   refine bnd rfl (bnd l0 ?_)
   have q2 : Int.tdiv (long + (k : Int) - 1) (k : Int) ≤ long + k - 1 := by rw [Int.tdiv_eq_ediv_of_nonneg (by omega)]; exact Int.ediv_le_self _ (by omega)
   have q1 : 0 ≤ Int.tdiv (long + (k : Int) - 1) (k : Int) := Int.tdiv_nonneg (by omega) (by omega)
   have e : ref05_Size k0 D (k : Int) long h = some (Int.tdiv (long + (k : Int) - 1) (k : Int), h) := by
    simp only [ref05_Size]
    refine ifn (by omega) ?_
    rw [w64 (long + (k : Int)) (by omega), w64 (long + (k : Int) - 1) (by omega), w64 _ (by omega)]
   exact bnd e rfl
theorem mat_row {k N : Nat} {h : AHeap} {B : Nat} (hb : h.get B = some (outB encI 3 (mat N (cau k)))) (hl : B < h.next) {i : Nat} (hi : i * k + k ≤ N) (cap : Nat) (sp : Option Nat) : Row encI h (⟨some ⟨B, i * k, sp⟩, k, cap⟩ : Slc) (rowC k i) := by
 have := Row.of_block (enc := encI) (h := h) (xs := rowC k i) (b := B) (o := i * k) (sp := sp) (cap := cap) (c := (mat N (cau k)).map encI) (e := 3) (r := true) (fz := 0) hb hl (fun j x hx => by
  have hj : j < k := by
   have := (List.getElem?_eq_some_iff.1 hx).1; rwa [rowC_length] at this
  have hx' : x = cau k (i * k + j) := by simp [rowC, hj] at hx; exact hx.symm
  rw [List.getElem?_map, mat_get (show i * k + j < N by omega), hx']; rfl)
 rw [rowC_length] at this
 exact this
theorem subL_row {B k i N : Nat} (hk : 0 < k) (hi : i * k + k ≤ N) (hN : N ≤ 70000) (hi2 : i ≤ 255) : Gx.subL 1 (⟨some ⟨B, 0, some 0⟩, N, N⟩ : Slc) (some (IntKind.wrap .i64 ((i : Int) * (k : Int)))) (some (IntKind.wrap .i64 ((IntKind.wrap .i64 ((i : Int) + 1)) * (k : Int)))) none = some (⟨some ⟨B, i * k, some 0⟩, k, N - i * k⟩ : Slc) := by
 have e1 : (i : Int) * (k : Int) = ((i * k : Nat) : Int) := by simp
 have e3 : IntKind.wrap .i64 ((i : Int) + 1) = ((i + 1 : Nat) : Int) := by rw [w64 _ (by omega)]; omega
 have e4 : ((i + 1 : Nat) : Int) * (k : Int) = ((i * k + k : Nat) : Int) := by push_cast; rw [Int.add_mul, Int.one_mul]
 have e2 : IntKind.wrap .i64 ((i : Int) * (k : Int)) = ((i * k : Nat) : Int) := by rw [e1]; exact w64 _ (by omega)
 rw [e3, e4, e2, w64 ((i * k + k : Nat) : Int) (by omega)]
 simp only [Gx.subL, Option.getD_none, Option.getD_some]
 rw [if_pos (by omega), if_pos (by rfl), if_neg (by omega)]
 simp only [Int.toNat_natCast, Nat.mul_one, Nat.zero_add, Option.isSome_none, Bool.false_eq_true, if_false]
 rw [show (((i * k + k : Nat) : Int) - ((i * k : Nat) : Int)).toNat = k by omega, show ((N : Int) - ((i * k : Nat) : Int)).toNat = N - i * k by omega]
end Gq
namespace Gq
open Go Gx Go.Proofs
theorem repL (c : Nat) : Lib.repeatL [0] c = List.replicate c (0 : UInt8) := by
 induction c with
 | zero => rfl
 | succ c ih => simp [Lib.repeatL, ih, List.replicate_succ]
theorem pad_bl {k : Nat} (s : ByteArray) : s ++ repB (⟨#[0]⟩ : ByteArray) (k * nE k s.size - s.size) = ⟨⟨padL k s⟩⟩ := by
 have e : repB (⟨#[0]⟩ : ByteArray) (k * nE k s.size - s.size) = ⟨⟨List.replicate (k * nE k s.size - s.size) 0⟩⟩ := by
  unfold repB
  have : (⟨#[0]⟩ : ByteArray).data.toList = [0] := rfl
  rw [this, repL]
 rw [e]
 exact ba_app (bl s) _
theorem row_fill {h : AHeap} {ob T i k : Nat} {f : Nat → ByteArray} {cap : Nat} (hb : h.get ob = some (outB encS 9 (filT f T i))) (hl : ob < h.next) (hk : k ≤ i) : Row encS h (⟨some ⟨ob, 0, some 0⟩, k, cap⟩ : Slc) ((List.range k).map f) := by
 have := Row.of_block (enc := encS) (h := h) (xs := (List.range k).map f) (b := ob) (o := 0) (sp := some 0) (cap := cap) (c := (filT f T i).map encS) (e := 9) (r := true) (fz := 0) hb hl (fun j x hx => by
  have hj : j < k := by
   have := (List.getElem?_eq_some_iff.1 hx).1; simpa using this
  have hx' : x = f j := by simp [hj] at hx; exact hx.symm
  rw [Nat.zero_add, List.getElem?_map, filT_get (show j < i by omega), hx']; rfl)
 simpa using this
theorem shard_piece {k i : Nat} (s : ByteArray) (hi : i < k) : shardB k s i = pieceB k s i := by unfold shardB; rw [if_pos hi]
theorem pieces_range {k : Nat} (s : ByteArray) : (List.range k).map (shardB k s) = piecesL k s := by
 apply List.map_congr_left
 intro i hi
 exact shard_piece s (List.mem_range.1 hi)
theorem sub_piece {k i : Nat} (hk : 0 < k) (hk2 : k ≤ 255) (s : ByteArray) (hs : s.size ≤ 65536) (hi : i < k) :
  Gx.subS (⟨⟨padL k s⟩⟩ : ByteArray) (some (IntKind.wrap .i64 ((i : Int) * ((nE k s.size : Nat) : Int)))) (some (IntKind.wrap .i64 ((IntKind.wrap .i64 ((i : Int) + 1)) * ((nE k s.size : Nat) : Int)))) = some (pieceB k s i) := by
 have hn := nE_le hk s.size
 generalize hnn : nE k s.size = n at *
 have h1 : (i + 1) * n ≤ k * n := Nat.mul_le_mul_right _ hi
 have h2 : i * n ≤ (i + 1) * n := Nat.mul_le_mul_right _ (by omega)
 have e1 : (i : Int) * (n : Int) = ((i * n : Nat) : Int) := by simp
 have e3 : IntKind.wrap .i64 ((i : Int) + 1) = ((i + 1 : Nat) : Int) := by rw [w64 _ (by omega)]; omega
 have e4 : ((i + 1 : Nat) : Int) * (n : Int) = (((i + 1) * n : Nat) : Int) := by simp
 rw [e3, e4, e1, w64 ((i * n : Nat) : Int) (by omega), w64 (((i + 1) * n : Nat) : Int) (by omega)]
 have hsz : (⟨⟨padL k s⟩⟩ : ByteArray).size = k * n := by rw [size_mk, padL_length hk, hnn]
 rw [subS_of (i := i * n) (j := (i + 1) * n) rfl rfl h2 (by rw [hsz]; exact h1)]
 unfold pieceB; rw [hnn]; rfl
abbrev sl1T := Option Addr → ByteArray → Int → Slc → Int → Int → AHeap → Option ((Slc × Int) × AHeap)
theorem split_l1 (K : Nat) (D : CallF) (j) (bot : sl1T) (p : Option Addr) {k m : Nat} (hk : 0 < k) (hk2 : k ≤ 255) (s : ByteArray) (hs : s.size ≤ 65536) {ob : Nat} : ∀ (d i : Nat) (h : AHeap), i + d = k → ob < h.next → h.get ob = some (outB encS 9 (filT (shardB k s) (k + m) i)) →
  ∃ h', iterK bot (d + 1) (stripe_Plan_Split_l1b K D j) p (⟨⟨padL k s⟩⟩ : ByteArray) ((nE k s.size : Nat) : Int) (⟨some ⟨ob, 0, some 0⟩, i, k + m⟩ : Slc) (k : Int) (i : Int) h = j p (⟨some ⟨ob, 0, some 0⟩, k, k + m⟩ : Slc) h' ∧
   h'.get ob = some (outB encS 9 (filT (shardB k s) (k + m) k)) ∧ Chg (· = ob) h h'
 | 0, i, h, hi, hl, hb => by
  obtain rfl : i = k := by omega
  refine ⟨h, ?_, hb, Chg.refl _ _⟩
  rw [iterK_s]; simp only [stripe_Plan_Split_l1b]
  exact ifn (by simp) rfl
 | d + 1, i, h, hi, hl, hb => by
  let h1 := h.new (.cells [.string (pieceB k s i)] 9 true 0)
  have k1 : Keeps h h1 := Keeps.new _ _
  have hb1 : h1.get ob = some (outB encS 9 (filT (shardB k s) (k + m) i)) := (k1.oth _ hl (fun f => f)).trans hb
  let h2 := h1.set ob (outB encS 9 (filT (shardB k s) (k + m) (i + 1)))
  have c2 : Chg (· = ob) h1 h2 := Chg.set (.inr rfl)
  obtain ⟨h', r, b', c'⟩ := split_l1 K D j bot p hk hk2 s hs (m := m) (ob := ob) d (i + 1) h2 (by omega) (by show ob < h.next + 1; omega) (set_get _ _ _)
  refine ⟨h', ?_, b', (Chg.keeps k1).trans (c2.trans c')⟩
  rw [iterK_s]; simp only [stripe_Plan_Split_l1b]
  refine ifp (by simp; omega) ?_
  refine bnd (sub_piece hk hk2 s hs (by omega)) ?_
  refine bnd rdS_one ?_
  refine bnd (fil_push hb1 (by omega) (by rw [shard_piece s (by omega)])) ?_
  rw [w1 (by omega)]
  exact r
theorem srow_spec (k0 : Nat) (D : CallF) {h : AHeap} {pb f2 B sb fb k m : Nat} (p : PL h pb f2 B sb fb k m) (hk : 0 < k) (hR : k + m ≤ 255) {i : Nat} (hi : i < k + m) :
  ∃ h', stripe_Plan_row k0 D (some ⟨pb, 0, none⟩) (((k + m : Nat) : Int), (k : Int), whole B ((k + m) * k)) (i : Int) h = some ((⟨some ⟨B, i * k, some 0⟩, k, (k + m) * k - i * k⟩ : Slc), h') ∧ Keeps h h' := by
 simp only [stripe_Plan_row]
 let h1 := h.new (.cells (mcell ((k + m : Nat) : Int) (k : Int) (whole B ((k + m) * k))) 50 true 0)
 have k1 : Keeps h h1 := Keeps.new _ _
 have b1 : h1.get h.next = some (.cells (mcell ((k + m : Nat) : Int) (k : Int) (whole B ((k + m) * k))) 50 true 0) := by simp [h1]
 have p1 := p.keeps k1
 have l0 : ldI .i64 ⟨pb, 0, none⟩ h1 = some (k : Int) := ldI_at p1.blk rfl
 have hle : i * k + k ≤ (k + m) * k := by have := Nat.mul_le_mul_right k hi; rw [Nat.succ_mul] at this; exact this
 have hN : (k + m) * k ≤ 65025 := Nat.le_trans (Nat.mul_le_mul hR (show k ≤ 255 by omega)) (by decide)
 refine ⟨h1, ?_, k1⟩
 have hL : ldL ⟨h.next, 2, none⟩ h1 = some (whole B ((k + m) * k)) := by simp [ldL, AHeap.rd1, b1, mcell, decL, whole]
 refine bnd hL (bnd rfl (bnd l0 (bnd rfl (bnd l0 ?_))))
 exact bnd (subL_row hk hle (by omega) (by omega)) rfl
abbrev sl0T := Option Addr → Slc → Slc → Int → Int → AHeap → Option ((Slc × Int) × AHeap)
theorem mix_bounds {k : Nat} (hk : 0 < k) (hk2 : k ≤ 255) (s : ByteArray) (hs : s.size ≤ 65536) : ∀ x ∈ piecesL k s, x.size ≤ 66000 := fun x hx => by
 rw [pieces_mem hk hx]
 have := nE_le hk s.size
 have h2 : nE k s.size ≤ k * nE k s.size := Nat.le_mul_of_pos_left _ hk
 omega
theorem split_l0 {k0 : Nat} (hk0 : 70000 ≤ k0) (j) (bot : sl0T) {pb f2 B sb fb k m : Nat} (hk : 0 < k) (hR : k + m ≤ 255) (s : ByteArray) (hs : s.size ≤ 65536) {ob : Nat} (o1 : ob ≠ f2) (o2 : ob ≠ pb) (o3 : ob ≠ B) (o4 : ob ≠ sb) (o5 : ob ≠ fb) : ∀ (d i : Nat) (h : AHeap), i + d = m → PL h pb f2 B sb fb k m → ob < h.next → h.get ob = some (outB encS 9 (filT (shardB k s) (k + m) (k + i))) →
  ∃ h', iterK bot (d + 1) (stripe_Plan_Split_l0b k0 (DD k0) j) (some ⟨pb, 0, none⟩) (⟨some ⟨ob, 0, some 0⟩, k + i, k + m⟩ : Slc) (⟨some ⟨ob, 0, some 0⟩, k, k⟩ : Slc) (m : Int) (i : Int) h = j (⟨some ⟨ob, 0, some 0⟩, k + m, k + m⟩ : Slc) h' ∧
   h'.get ob = some (outB encS 9 (filT (shardB k s) (k + m) (k + m))) ∧ PL h' pb f2 B sb fb k m ∧ Chg (fun x => x = ob ∨ x = f2) h h'
 | 0, i, h, hi, p, hl, hb => by
  obtain rfl : i = m := by omega
  refine ⟨h, ?_, hb, p, Chg.refl _ _⟩
  rw [iterK_s]; simp only [stripe_Plan_Split_l0b]
  exact ifn (by simp) rfl
 | d + 1, i, h, hi, p, hl, hb => by
  obtain ⟨h1, r1, k1⟩ := srow_spec k0 (DD k0) p hk hR (i := k + i) (by omega)
  have p1 := p.keeps k1
  have hl1 : ob < h1.next := Nat.lt_of_lt_of_le hl k1.nx
  have hb1 : h1.get ob = some (outB encS 9 (filT (shardB k s) (k + m) (k + i))) := (k1.oth _ hl (fun f => f)).trans hb
  have Rp : Row encS h1 (⟨some ⟨ob, 0, some 0⟩, k, k⟩ : Slc) (piecesL k s) := by
   have := row_fill (cap := k) hb1 hl1 (show k ≤ k + i by omega)
   rwa [pieces_range] at this
  have hle : (k + i) * k + k ≤ (k + m) * k := by
   have := Nat.mul_le_mul_right k (show k + i + 1 ≤ k + m by omega); rw [Nat.succ_mul] at this; exact this
  have Rc := mat_row p1.mat p1.lb hle ((k + m) * k - (k + i) * k) (some 0)
  have mb := mix_bounds hk (by omega) s hs
  obtain ⟨h2, r2, s2⟩ := fmix_spec (k := k0) (by omega) p1.fld p1.lf Rp Rc (fun a ha => by cases ha; exact o1) (fun a ha => by cases ha; exact p1.n1) (by rw [piecesL_length]; omega) (by rw [rowC_length]; omega)
   (fun x hx => by have := mb x hx; omega) (by rw [piecesL_length]; omega) (by rw [rowC_length]; omega) (fun x hx => by have := mb x hx; omega)
  have p2 := p1.fs2 s2
  have hb2 : h2.get ob = some (outB encS 9 (filT (shardB k s) (k + m) (k + i))) := (s2.oth _ hl1 o1).trans hb1
  have hl2 : ob < h2.next := Nat.lt_of_lt_of_le hl1 s2.nx
  have ex : (mixA (piecesL k s) (rowC k (k + i))).1 = shardB k s (k + i) := by unfold shardB; rw [if_neg (by omega)]
  let h3 := h2.new (.cells [.string (mixA (piecesL k s) (rowC k (k + i))).1] 9 true 0)
  have k3 : Keeps h2 h3 := Keeps.new _ _
  have p3 := p2.keeps k3
  have hb3 : h3.get ob = some (outB encS 9 (filT (shardB k s) (k + m) (k + i))) := (k3.oth _ hl2 (fun f => f)).trans hb2
  let h4 := h3.set ob (outB encS 9 (filT (shardB k s) (k + m) (k + i + 1)))
  have c4 : Chg (· = ob) h3 h4 := Chg.set (.inr rfl)
  have p4 : PL h4 pb f2 B sb fb k m := p3.chg c4 (fun e => o2 e.symm) (fun e => o1 e.symm) (fun e => o3 e.symm) (fun e => o4 e.symm) (fun e => o5 e.symm)
  obtain ⟨h', r, b', p', c'⟩ := split_l0 hk0 j bot hk hR s hs o1 o2 o3 o4 o5 d (i + 1) h4 (by omega) p4 (by show ob < h2.next + 1; omega) (set_get _ _ _)
  refine ⟨h', ?_, b', p', ?_⟩
  ·rw [iterK_s]; simp only [stripe_Plan_Split_l0b]
   refine ifp (by simp; omega) ?_
   refine bnd rfl ?_
   have q1 : ldA 3 (⟨pb, 0 + 4, none⟩ : Addr) h = some (mcell ((k + m : Nat) : Int) (k : Int) (whole B ((k + m) * k))) := by
    simp only [ldA, AHeap.rdL, p.blk]; rfl
   refine bnd q1 (bnd rfl ?_)
   refine bnd rfl (bnd (ldI_at p.blk rfl) ?_)
   have e1 : IntKind.wrap .i64 ((k : Int) + (i : Int)) = ((k + i : Nat) : Int) := by rw [w64 _ (by omega)]; omega
   rw [e1]
   refine bnd r1 ?_
   have q2 : ldP (⟨pb, 0 + 2, none⟩ : Addr) h1 = some (some ⟨f2, 0, none⟩) := by simp [ldP, AHeap.rd1, p1.blk, decP]
   have q3 : ldP (⟨pb, 0 + 2, none⟩ : Addr) h = some (some ⟨f2, 0, none⟩) := by simp [ldP, AHeap.rd1, p.blk, decP]
   refine bnd rfl (bnd q2 (gp (sw1 (bnd q3 rfl)) ?_))
   refine bnd r2 ?_
   refine bnd rdS_one ?_
   refine bnd (fil_push hb3 (by omega) ex) ?_
   rw [w1 (by omega)]
   exact r
  ·have a1 : Chg (fun x => x = ob ∨ x = f2) h h1 := k1.keeps
   have a2 : Chg (fun x => x = ob ∨ x = f2) h1 h2 := s2.chg.wk fun x _ e => .inr e
   have a3 : Chg (fun x => x = ob ∨ x = f2) h2 h3 := k3.keeps
   have a4 : Chg (fun x => x = ob ∨ x = f2) h3 h4 := c4.wk fun x _ e => .inl e
   exact a1.trans (a2.trans (a3.trans (a4.trans c')))
theorem split_spec {k0 : Nat} (hk0 : 70000 ≤ k0) {h : AHeap} {pb f2 B sb fb k m : Nat} (p : PL h pb f2 B sb fb k m) (hk : 0 < k) (hR : k + m ≤ 255) (s : ByteArray) (hs : s.size ≤ 65536) :
  ∃ h' ob, stripe_Plan_Split k0 (DD k0) (some ⟨pb, 0, none⟩) s h = some (((⟨some ⟨ob, 0, some 0⟩, k + m, k + m⟩ : Slc), 0), h') ∧ h'.get ob = some (outB encS 9 (shardsL k m s)) ∧ h.next ≤ ob ∧ ob < h'.next ∧ PL h' pb f2 B sb fb k m ∧ Chg (· = f2) h h' := by
 simp only [stripe_Plan_Split]
 have re := each_spec k0 (DD k0) p hk (by omega) (s.size : Int)
 rw [eachA_nat hk hs] at re
 have l0 : ldI .i64 ⟨pb, 0, none⟩ h = some (k : Int) := ldI_at p.blk rfl
 have l1 : ldI .i64 ⟨pb, 1, none⟩ h = some (m : Int) := ldI_at p.blk rfl
 have hge := nE_ge hk s.size
 have hle := nE_le hk s.size
 have ekn : (k : Int) * ((nE k s.size : Nat) : Int) = ((k * nE k s.size : Nat) : Int) := by simp
 have et : IntKind.wrap .i64 ((IntKind.wrap .i64 ((k : Int) * ((nE k s.size : Nat) : Int))) - (s.size : Int)) = ((k * nE k s.size - s.size : Nat) : Int) := by
  rw [ekn, w64 ((k * nE k s.size : Nat) : Int) (by omega), w64 _ (by omega)]; omega
 have hrep : repeatA (⟨#[0]⟩ : ByteArray) ((k * nE k s.size - s.size : Nat) : Int) = some (repB (⟨#[0]⟩ : ByteArray) (k * nE k s.size - s.size)) := by
  unfold repeatA
  rw [if_pos ⟨by omega, by omega, by rw [Int.toNat_natCast]; show 1 * _ ≤ _; omega⟩, Int.toNat_natCast]
 have hrs : (repB (⟨#[0]⟩ : ByteArray) (k * nE k s.size - s.size)).size = k * nE k s.size - s.size := by
  unfold repB
  have e1 : (⟨#[0]⟩ : ByteArray).data.toList = [0] := rfl
  rw [e1, repL]; exact (size_mk _).trans List.length_replicate
 have ekm : IntKind.wrap .i64 ((k : Int) + (m : Int)) = ((k + m : Nat) : Int) := by rw [w64 _ (by omega)]; omega
 let ob := h.next
 let h1 := h.new (outB encS 9 (filT (shardB k s) (k + m) 0))
 have k1 : Keeps h h1 := Keeps.new _ _
 have hz : (zerosL (((k + m : Nat) : Int)).toNat [.string ⟨#[]⟩]) = (filT (shardB k s) (k + m) 0).map encS := by
  rw [Int.toNat_natCast]; simp [zerosL, filT, encS, emT]
 have b1 : h1.get ob = some (outB encS 9 (filT (shardB k s) (k + m) 0)) := by simp [h1, ob]
 have p1 := p.keeps k1
 have hlp := p.lp; have hlf := p.lf; have hlb := p.lb; have hls := p.spc.ls; have hlg := p.spc.lf
 generalize hj14 : (fun (p11 : Option Addr) (out12 : Slc) (h13 : AHeap) => (p11.bind fun p15 => _ : Option ((Slc × Int) × AHeap))) = j14
 unfold stripe_Plan_Split_l1
 obtain ⟨bot1, e1⟩ := iterK_of (α := sl1T) (fun _ _ _ _ _ _ _ => none) (stripe_Plan_Split_l1b k0 (DD k0) j14) (show k + 1 ≤ k0 by omega)
 obtain ⟨h2, r2, b2, c2⟩ := split_l1 k0 (DD k0) j14 bot1 (some ⟨pb, 0, none⟩) hk (by omega) s hs (m := m) (ob := ob) k 0 h1 (by omega) (by show h.next < h.next + 1; omega) b1
 have p2 : PL h2 pb f2 B sb fb k m := p1.chg c2 (fun e => by have : pb = h.next := e; omega) (fun e => by have : f2 = h.next := e; omega) (fun e => by have : B = h.next := e; omega) (fun e => by have : sb = h.next := e; omega) (fun e => by have : fb = h.next := e; omega)
 have hl2 : ob < h2.next := Nat.lt_of_lt_of_le (by show h.next < h.next + 1; omega) c2.nx
 obtain ⟨bot0, e0⟩ := iterK_of (α := sl0T) (fun _ _ _ _ _ _ => none) (stripe_Plan_Split_l0b k0 (DD k0) fun (out20 : Slc) (h21 : AHeap) => some ((out20, 0), h21)) (show m + 1 ≤ k0 by omega)
 obtain ⟨h3, r3, b3, p3, c3⟩ := split_l0 hk0 (fun (out20 : Slc) (h21 : AHeap) => some ((out20, 0), h21)) bot0 (pb := pb) (f2 := f2) (B := B) (sb := sb) (fb := fb) hk hR s hs (ob := ob) (by show h.next ≠ _; omega) (by show h.next ≠ _; omega) (by show h.next ≠ _; omega) (by show h.next ≠ _; omega) (by show h.next ≠ _; omega) m 0 h2 (by omega) p2 hl2 b2
 refine ⟨h3, ob, ?_, ?_, Nat.le_refl _, Nat.lt_of_lt_of_le hl2 c3.nx, p3, ?_⟩
 ·refine bnd re ?_
  refine ifn (by simp) ?_
  refine bnd rfl (bnd l0 ?_)
  rw [et]
  refine bnd hrep ?_
  refine ifp (by rw [hrs]; omega) ?_
  refine bnd rfl (bnd l0 (bnd rfl (bnd l1 ?_)))
  rw [ekm]
  refine ifp (by omega) ?_
  rw [hz]
  refine jn ?_
  refine bnd rfl (bnd (ldI_at p1.blk rfl) ?_)
  rw [pad_bl, Int.toNat_natCast]
  show iterK _ k0 (stripe_Plan_Split_l1b k0 (DD k0) j14) (some ⟨pb, 0, none⟩) (⟨⟨padL k s⟩⟩ : ByteArray) ((nE k s.size : Nat) : Int) (⟨some ⟨ob, 0, some 0⟩, 0, k + m⟩ : Slc) (k : Int) ((0 : Nat) : Int) h1 = _
  rw [e1, r2]
  subst hj14
  refine bnd rfl (bnd (ldI_at p2.blk rfl) (bnd rfl (bnd (ldI_at p2.blk rfl) ?_)))
  have hsub : Gx.subL 1 (⟨some ⟨ob, 0, some 0⟩, k, k + m⟩ : Slc) none (some (k : Int)) (some (k : Int)) = some (⟨some ⟨ob, 0, some 0⟩, k, k⟩ : Slc) := by
   simp only [Gx.subL, Option.getD_none, Option.getD_some]
   rw [if_pos (by omega), if_pos (show spOk (some 0) 1 = true from rfl), if_neg (by omega)]
   simp
  refine bnd hsub ?_
  refine jn ?_
  refine bnd rfl (bnd (ldI_at p2.blk rfl) ?_)
  unfold stripe_Plan_Split_l0
  rw [e0]
  exact r3
 ·rw [b3, filT_all]; rfl
 ·exact Chg.beh k1.keeps ((c2.wk (T := fun x => x = ob ∨ x = f2) fun x _ e => .inl e).trans c3) (fun x hx e => by
   rcases e with e | e
   ·have : x = h.next := e; omega
   ·exact e)
end Gq
namespace Gq
open Go Gx Go.Proofs
theorem beh_acc {α : Type} {enc : α → Value} {e : TypeId} {h0 h h' : AHeap} {s : Slc} {xs : List α} (k : Keeps h0 h) (A : Acc enc e h0.next h s xs) (c : Chg (ofS s) h h') : Keeps h0 h' :=
 Chg.beh k c fun x hx e => by
  obtain ⟨a, ha, rfl⟩ := e
  have := (A.lt a ha).2
  omega
theorem encS_one : ∀ x : ByteArray, one (encS x) = true := fun _ => rfl
abbrev rp0T := Option Addr → ByteArray → Int → Slc → Int → AHeap → Option ((Slc) × AHeap)
theorem rpieces_l0 (K : Nat) (D : CallF) (j) (bot : rp0T) {h0 : AHeap} {pb B k m : Nat} (hk : 0 < k) (hk2 : k ≤ 255) (s : ByteArray) (hs : s.size ≤ 65536) : ∀ (d i : Nat) (h : AHeap) (o : Slc), i + d = k → PR h0 pb B k m → Keeps h0 h → Acc encS 9 h0.next h o ((List.range i).map (pieceB k s)) →
  ∃ h' o', iterK bot (d + 1) (ref05_Plan_pieces_l0b K D j) (some ⟨pb, 0, none⟩) (⟨⟨padL k s⟩⟩ : ByteArray) ((nE k s.size : Nat) : Int) o (i : Int) h = j o' h' ∧ Keeps h0 h' ∧ Acc encS 9 h0.next h' o' (piecesL k s)
 | 0, i, h, o, hi, p, kh, A => by
  obtain rfl : i = k := by omega
  refine ⟨h, o, ?_, kh, A⟩
  rw [iterK_s]; simp only [ref05_Plan_pieces_l0b]
  refine bnd rfl (bnd (ldI_at (p.keeps kh).blk rfl) ?_)
  exact ifn (by simp) rfl
 | d + 1, i, h, o, hi, p, kh, A => by
  obtain ⟨o1, h1, ra, A1, c1, _⟩ := A.push (bytes := 16) encS_one (pieceB k s i) (by simp; omega) (by decide) kh.nx
  have kh1 := beh_acc kh A c1
  have e1 : (List.range i).map (pieceB k s) ++ [pieceB k s i] = (List.range (i + 1)).map (pieceB k s) := by rw [List.range_succ, List.map_append]; rfl
  rw [e1] at A1
  obtain ⟨h', o', r, k', A'⟩ := rpieces_l0 K D j bot (h0 := h0) (pb := pb) (B := B) (m := m) hk hk2 s hs d (i + 1) h1 o1 (by omega) p kh1 A1
  refine ⟨h', o', ?_, k', A'⟩
  rw [iterK_s]; simp only [ref05_Plan_pieces_l0b]
  refine bnd rfl (bnd (ldI_at (p.keeps kh).blk rfl) ?_)
  refine ifp (by simp; omega) ?_
  refine bnd (sub_piece hk hk2 s hs (by omega)) ?_
  refine bnd rdS_one ?_
  refine bnd ra ?_
  rw [w1 (by omega)]
  exact r
theorem size_run (k0 : Nat) (D : CallF) {k L : Nat} (hk : 0 < k) (hk2 : k ≤ 255) (hL : L ≤ 65536) (h : AHeap) : ref05_Size k0 D (k : Int) (L : Int) h = some (((nE k L : Nat) : Int), h) := by
 simp only [ref05_Size]
 refine ifn (by omega) ?_
 have e1 : (L : Int) + (k : Int) - 1 = ((L + k - 1 : Nat) : Int) := by omega
 have e2 : Int.tdiv ((L + k - 1 : Nat) : Int) (k : Int) = ((nE k L : Nat) : Int) := rfl
 have := nE_le hk L
 have h2 : nE k L ≤ k * nE k L := Nat.le_mul_of_pos_left _ hk
 rw [w64 ((L : Int) + (k : Int)) (by omega), e1, w64 ((L + k - 1 : Nat) : Int) (by omega), e2, w64 _ (by omega)]
theorem rpieces_spec {k0 : Nat} (hk0 : 70000 ≤ k0) (D : CallF) {h : AHeap} {pb B k m : Nat} (p : PR h pb B k m) (hk : 0 < k) (hk2 : k ≤ 255) (s : ByteArray) (hs : s.size ≤ 65536) :
  ∃ h' o, ref05_Plan_pieces k0 D (some ⟨pb, 0, none⟩) s h = some (o, h') ∧ Keeps h h' ∧ Acc encS 9 h.next h' o (piecesL k s) := by
 simp only [ref05_Plan_pieces]
 have l0 : ldI .i64 ⟨pb, 0, none⟩ h = some (k : Int) := ldI_at p.blk rfl
 have hge := nE_ge hk s.size
 have hle := nE_le hk s.size
 have ekn : (k : Int) * ((nE k s.size : Nat) : Int) = ((k * nE k s.size : Nat) : Int) := by simp
 have et : IntKind.wrap .i64 ((IntKind.wrap .i64 ((k : Int) * ((nE k s.size : Nat) : Int))) - (s.size : Int)) = ((k * nE k s.size - s.size : Nat) : Int) := by
  rw [ekn, w64 ((k * nE k s.size : Nat) : Int) (by omega), w64 _ (by omega)]; omega
 let h1 := h.new (.cells ((List.replicate (k * nE k s.size - s.size) (0 : UInt8)).map encB) 5 true 0)
 have k1 : Keeps h h1 := Keeps.new _ _
 have b1 : h1.get h.next = some (.cells ((List.replicate (k * nE k s.size - s.size) (0 : UInt8)).map encB) 5 true 0) := by simp [h1]
 have hbs := bytesOf_out (cap := k * nE k s.size - s.size) (sp := some 0) b1
 rw [List.length_replicate] at hbs
 obtain ⟨bot1, e1⟩ := iterK_of (α := rp0T) (fun _ _ _ _ _ _ => none) (ref05_Plan_pieces_l0b k0 D fun (out9 : Slc) (h10 : AHeap) => some (out9, h10)) (show k + 1 ≤ k0 by omega)
 obtain ⟨h', o', r, k', A'⟩ := rpieces_l0 k0 D (fun (out9 : Slc) (h10 : AHeap) => some (out9, h10)) bot1 (h0 := h) (pb := pb) (B := B) (m := m) hk hk2 s hs k 0 h1 ⟨none, 0, 0⟩ (by omega) p k1 (Acc.nil _ _ _ _)
 refine ⟨h', o', ?_, k', A'⟩
 refine bnd rfl (bnd l0 (bnd (size_run k0 D hk hk2 hs h) ?_))
 refine bnd rfl (bnd l0 ?_)
 rw [et]
 refine ifp (by omega) ?_
 rw [Int.toNat_natCast, zeros_bytes]
 refine bnd hbs ?_
 have hsz : (⟨⟨List.replicate (k * nE k s.size - s.size) (0 : UInt8)⟩⟩ : ByteArray).size = k * nE k s.size - s.size := (size_mk _).trans List.length_replicate
 refine ifp (by rw [hsz]; omega) ?_
 refine jn ?_
 have ep : s ++ (⟨⟨List.replicate (k * nE k s.size - s.size) 0⟩⟩ : ByteArray) = ⟨⟨padL k s⟩⟩ := ba_app (bl s) _
 rw [ep]
 unfold ref05_Plan_pieces_l0
 rw [e1]
 exact r
theorem rrow_spec (k0 : Nat) (D : CallF) {h : AHeap} {pb B k m : Nat} (p : PR h pb B k m) (hk : 0 < k) (hR : k + m ≤ 255) {i : Nat} (hi : i < k + m) :
  ref05_Plan_row k0 D (some ⟨pb, 0, none⟩) (i : Int) h = some ((⟨some ⟨B, i * k, some 0⟩, k, (k + m) * k - i * k⟩ : Slc), h) := by
 simp only [ref05_Plan_row]
 have l0 : ldI .i64 ⟨pb, 0, none⟩ h = some (k : Int) := ldI_at p.blk rfl
 have hle : i * k + k ≤ (k + m) * k := by have := Nat.mul_le_mul_right k hi; rw [Nat.succ_mul] at this; exact this
 have hN : (k + m) * k ≤ 65025 := Nat.le_trans (Nat.mul_le_mul hR (show k ≤ 255 by omega)) (by decide)
 have hL : ldL (⟨pb, 0 + 2 + 2, none⟩ : Addr) h = some (⟨some ⟨B, 0, some 0⟩, (k + m) * k, (k + m) * k⟩ : Slc) := by simp [ldL, AHeap.rd1, p.blk, decL]
 refine bnd rfl (bnd hL (bnd rfl (bnd l0 (bnd rfl (bnd l0 ?_)))))
 exact bnd (subL_row hk hle (by omega) (by omega)) rfl
abbrev rs0T := Option Addr → Slc → Slc → Int → AHeap → Option ((Slc) × AHeap)
theorem rshards_l0 {k0 : Nat} (hk0 : 70000 ≤ k0) (D : CallF) (j) (bot : rs0T) {h0 : AHeap} {pb B k m : Nat} (hk : 0 < k) (hR : k + m ≤ 255) (s : ByteArray) (hs : s.size ≤ 65536) (l : Slc) (hl : ∀ a, l.a = some a → a.block < h0.next) (R : Row encS h0 l (piecesL k s)) : ∀ (d i : Nat) (h : AHeap) (o : Slc), i + d = m → PR h0 pb B k m → Keeps h0 h → Acc encS 9 h0.next h o ((List.range (k + i)).map (shardB k s)) →
  ∃ h' o', iterK bot (d + 1) (ref05_Plan_Shards_l0b k0 D j) (some ⟨pb, 0, none⟩) l o ((k + i : Nat) : Int) h = j o' h' ∧ Keeps h0 h' ∧ Acc encS 9 h0.next h' o' (shardsL k m s)
 | 0, i, h, o, hi, p, kh, A => by
  obtain rfl : i = m := by omega
  refine ⟨h, o, ?_, kh, A⟩
  rw [iterK_s]; simp only [ref05_Plan_Shards_l0b]
  refine bnd rfl (bnd (ldI_at (p.keeps kh).blk rfl) (bnd rfl (bnd (ldI_at (p.keeps kh).blk rfl) ?_)))
  rw [w64 ((k : Int) + (i : Int)) (by omega)]
  exact ifn (by simp) rfl
 | d + 1, i, h, o, hi, p, kh, A => by
  have p1 := p.keeps kh
  have Rl : Row encS h l (piecesL k s) := R.keeps kh
  have hle : (k + i) * k + k ≤ (k + m) * k := by
   have := Nat.mul_le_mul_right k (show k + i + 1 ≤ k + m by omega); rw [Nat.succ_mul] at this; exact this
  have Rc := mat_row p1.mat p1.lb hle ((k + m) * k - (k + i) * k) (some 0)
  have mb := mix_bounds hk (by omega) s hs
  obtain ⟨h2, r2, k2⟩ := rmix_spec (k := k0) (by omega) D Rl Rc (by rw [piecesL_length]; omega) (by rw [rowC_length]; omega) (fun x hx => by have := mb x hx; omega) (by rw [piecesL_length]; omega) (by rw [rowC_length]; omega) (fun x hx => by have := mb x hx; omega)
  have kh2 := kh.trans k2
  have A2 := A.keeps k2
  have ex : (mixA (piecesL k s) (rowC k (k + i))).1 = shardB k s (k + i) := by unfold shardB; rw [if_neg (by omega)]
  obtain ⟨o3, h3, ra, A3, c3, _⟩ := A2.push (bytes := 16) encS_one (mixA (piecesL k s) (rowC k (k + i))).1 (by simp; omega) (by decide) kh2.nx
  have kh3 := beh_acc kh2 A2 c3
  have e1 : (List.range (k + i)).map (shardB k s) ++ [(mixA (piecesL k s) (rowC k (k + i))).1] = (List.range (k + (i + 1))).map (shardB k s) := by rw [ex, ← Nat.add_assoc, List.range_succ, List.map_append]; rfl
  rw [e1] at A3
  obtain ⟨h', o', r, k', A'⟩ := rshards_l0 hk0 D j bot hk hR s hs l hl R d (i + 1) h3 o3 (by omega) p kh3 A3
  refine ⟨h', o', ?_, k', A'⟩
  rw [iterK_s]; simp only [ref05_Plan_Shards_l0b]
  refine bnd rfl (bnd (ldI_at p1.blk rfl) (bnd rfl (bnd (ldI_at p1.blk rfl) ?_)))
  rw [w64 ((k : Int) + (m : Int)) (by omega)]
  refine ifp (by simp; omega) ?_
  refine bnd (rrow_spec k0 D p1 hk hR (by omega)) ?_
  refine bnd r2 (bnd rdS_one (bnd ra ?_))
  rw [w1 (by omega)]
  exact r
end Gq
namespace Gq
open Go Gx Go.Proofs
def Tru {R : Type} (x : Option (R × AHeap)) (v : R) : Prop := ∃ h', x = some (v, h')
theorem Tru.bnd {R α : Type} {v : R} {x : Option α} {a : α} {f : α → Option (R × AHeap)} (h : x = some a) (k : Tru (f a) v) : Tru (x.bind f) v := by rw [h]; exact k
theorem Tru.jn {R α : Type} {v : R} {J : α} {b : α → Option (R × AHeap)} (k : ∀ j, j = J → Tru (b j) v) : Tru (joinK J b) v := k J rfl
theorem Tru.ifp {R : Type} {v : R} {c : Prop} [Decidable c] {a b : Option (R × AHeap)} (h : c) (k : Tru a v) : Tru (if c then a else b) v := by rw [if_pos h]; exact k
theorem Tru.ifn {R : Type} {v : R} {c : Prop} [Decidable c] {a b : Option (R × AHeap)} (h : ¬ c) (k : Tru b v) : Tru (if c then a else b) v := by rw [if_neg h]; exact k
theorem Tru.of {R : Type} {v : R} {h : AHeap} : Tru (some (v, h)) v := ⟨h, rfl⟩
def abc : ByteArray := ⟨#[97, 98, 99]⟩
theorem abc0 : shardB 2 abc 0 = ⟨#[97, 98]⟩ := by decide +kernel
theorem abc1 : shardB 2 abc 1 = ⟨#[99, 0]⟩ := by decide +kernel
theorem abc2 : (shardB 2 abc 2).size = 2 := by decide +kernel
theorem shards_get {k m i : Nat} (s : ByteArray) (hi : i < k + m) : (shardsL k m s)[i]? = some (shardB k s i) := by simp [shardsL, hi]
theorem shards_row {h : AHeap} {ob k m : Nat} {s : ByteArray} (hb : h.get ob = some (outB encS 9 (shardsL k m s))) (hl : ob < h.next) : Row encS h (⟨some ⟨ob, 0, some 0⟩, k + m, k + m⟩ : Slc) (shardsL k m s) := by
 rw [show shardsL k m s = filT (shardB k s) (k + m) (k + m) from filT_all.symm] at hb
 have := row_fill (cap := k + m) hb hl (Nat.le_refl _)
 exact this
theorem sworks_spec {k0 : Nat} (hk0 : 70000 ≤ k0) (h : AHeap) : ∃ h', law05_works k0 (DD k0) h = some (true, h') ∧ Keeps h h' := by
 simp only [law05_works]
 obtain ⟨h1, pb, f2, B, sb, fb, r1, p1, k1, a1, a2, a3, a4, a5⟩ := snew_spec (k0 := k0) (by omega) h (k := 2) (m := 1) (by decide) (by decide)
 obtain ⟨h2, ob, r2, b2, o1, o2, p2, c2⟩ := split_spec hk0 p1 (by decide) (by decide) abc (by decide)
 have R := shards_row b2 o2
 obtain ⟨q0, i0, l0⟩ := R.ldS (shards_get (i := 0) abc (by decide))
 obtain ⟨q1, i1, l1⟩ := R.ldS (shards_get (i := 1) abc (by decide))
 obtain ⟨q2, i2, l2⟩ := R.ldS (shards_get (i := 2) abc (by decide))
 refine ⟨h2, ?_, Chg.beh k1 c2 (fun x hx e => by have : x = f2 := e; omega)⟩
 refine bnd r1 ?_
 refine jn ?_
 refine ifn (by simp) ?_
 refine ifn (by simp) ?_
 refine bnd r2 ?_
 refine ifp (by simp) ?_
 refine ifp (by simp) ?_
 refine bnd i0 (bnd l0 ?_)
 refine ifp (by rw [abc0]; decide +kernel) ?_
 refine bnd i1 (bnd l1 ?_)
 refine ifp (by rw [abc1]; decide +kernel) ?_
 refine bnd i2 (bnd l2 ?_)
 rw [abc2]; rfl
end Gq
namespace Gq
open Go Gx Go.Proofs
abbrev Prt := Int × ByteArray
def enc2 (x : Prt) : List Value := [.int .i64 x.1, .string x.2]
structure Row2 (h : AHeap) (s : Slc) (xs : List Prt) : Prop where
 len : s.len = xs.length
 at' : ∀ (i : Nat) (x : Prt), xs[i]? = some x → ∃ a c e r fz, s.a = some a ∧ a.block < h.next ∧ h.get a.block = some (.cells c e r fz) ∧ c[a.off + i * 2]? = some (.int .i64 x.1) ∧ c[a.off + i * 2 + 1]? = some (.string x.2)
theorem Row2.nil (h : AHeap) (a : Option Addr) (cap : Nat) : Row2 h ⟨a, 0, cap⟩ [] := ⟨rfl, fun i x hx => by simp at hx⟩
theorem Row2.chg {S : Nat → Prop} {h h' : AHeap} {s : Slc} {xs : List Prt} (R : Row2 h s xs) (c : Chg S h h') (hs : ∀ a, s.a = some a → ¬ S a.block) : Row2 h' s xs :=
 ⟨R.len, fun i x hx => by
  obtain ⟨a, cs, e, r, fz, h1, h2, h3, h4⟩ := R.at' i x hx
  exact ⟨a, cs, e, r, fz, h1, Nat.lt_of_lt_of_le h2 c.nx, (c.oth _ h2 (hs a h1)).trans h3, h4⟩⟩
theorem Row2.keeps {h h' : AHeap} {s : Slc} {xs : List Prt} (R : Row2 h s xs) (c : Keeps h h') : Row2 h' s xs := R.chg c fun _ _ f => f
theorem drop_two {c : List Value} {o : Nat} {u v : Value} (h1 : c[o]? = some u) (h2 : c[o + 1]? = some v) : (c.drop o).take 2 = [u, v] := by
 rw [dropc h1, dropc h2]; rfl
theorem Row2.ld {h : AHeap} {s : Slc} {xs : List Prt} (R : Row2 h s xs) {i : Nat} {x : Prt} (hx : xs[i]? = some x) : ∃ q, idxL 2 s (i : Int) = some q ∧ ldA 2 q h = some (enc2 x) := by
 obtain ⟨a, c, e, r, fz, h1, h2, h3, h4, h5⟩ := R.at' i x hx
 have hi : i < s.len := by rw [R.len]; exact (List.getElem?_eq_some_iff.1 hx).1
 refine ⟨⟨a.block, a.off + i * 2, none⟩, ?_, ?_⟩
 ·simp only [idxL, h1]
  rw [if_pos (by omega), Int.toNat_natCast]
 ·have hlen : a.off + i * 2 + 1 < c.length := (List.getElem?_eq_some_iff.1 h5).1
  simp only [ldA, AHeap.rdL, h3]
  rw [if_pos (by omega), drop_two h4 h5]; rfl
theorem dec2 (x : Prt) : decC [.i .i64, .s] (enc2 x) = some x := rfl
def flat2 (xs : List Prt) : List Value := xs.flatMap enc2
theorem flat2_length (xs : List Prt) : (flat2 xs).length = xs.length * 2 := by
 induction xs with
 | nil => rfl
 | cons x xs ih => simp only [flat2, List.flatMap_cons, List.length_append] at ih ⊢; rw [ih]; simp [enc2]; omega
theorem flat2_append (xs ys : List Prt) : flat2 (xs ++ ys) = flat2 xs ++ flat2 ys := by simp [flat2]
theorem flat2_get : ∀ {xs : List Prt} {i : Nat} {x : Prt}, xs[i]? = some x → (flat2 xs)[i * 2]? = some (.int .i64 x.1) ∧ (flat2 xs)[i * 2 + 1]? = some (.string x.2)
 | [], i, x, h => by simp at h
 | y :: xs, 0, x, h => by simp at h; subst h; exact ⟨rfl, rfl⟩
 | y :: xs, i + 1, x, h => by
  have := flat2_get (xs := xs) (i := i) (x := x) (by simpa using h)
  have e : flat2 (y :: xs) = .int .i64 y.1 :: .string y.2 :: flat2 xs := rfl
  rw [e, show (i + 1) * 2 = i * 2 + 1 + 1 by omega]
  simpa using this
theorem row2_blk {h : AHeap} {b n cap : Nat} {sp : Option Nat} {xs : List Prt} {e : TypeId} {r : Bool} {fz : Nat} (hb : h.get b = some (.cells (flat2 xs) e r fz)) (hl : b < h.next) (hn : n = xs.length) : Row2 h ⟨some ⟨b, 0, sp⟩, n, cap⟩ xs :=
 ⟨hn, fun i x hx => by
  obtain ⟨h1, h2⟩ := flat2_get hx
  exact ⟨_, _, _, _, _, rfl, hl, hb, by rw [Nat.zero_add]; exact h1, by rw [Nat.zero_add]; exact h2⟩⟩
structure Acc2 (base : Nat) (h : AHeap) (s : Slc) (xs : List Prt) : Prop where
 st : (s = ⟨none, 0, 0⟩ ∧ xs = []) ∨ ∃ b, s = ⟨some ⟨b, 0, some 3⟩, xs.length, xs.length⟩ ∧ h.get b = some (.cells (flat2 xs) 35 true 0) ∧ xs ≠ []
 lt : ∀ a, s.a = some a → a.block < h.next ∧ base ≤ a.block
theorem Acc2.nil (base : Nat) (h : AHeap) : Acc2 base h ⟨none, 0, 0⟩ [] := ⟨.inl ⟨rfl, rfl⟩, fun a ha => by cases ha⟩
theorem Acc2.chg {S : Nat → Prop} {base : Nat} {h h' : AHeap} {s : Slc} {xs : List Prt} (A : Acc2 base h s xs) (c : Chg S h h') (hs : ∀ a, s.a = some a → ¬ S a.block) : Acc2 base h' s xs := by
 refine ⟨A.st.imp id ?_, fun a ha => ⟨Nat.lt_of_lt_of_le (A.lt a ha).1 c.nx, (A.lt a ha).2⟩⟩
 rintro ⟨b, h1, h2, h3⟩
 have hb := A.lt ⟨b, 0, some 3⟩ (by rw [h1])
 exact ⟨b, h1, (c.oth b hb.1 (hs ⟨b, 0, some 3⟩ (by rw [h1]))).trans h2, h3⟩
theorem Acc2.keeps {base : Nat} {h h' : AHeap} {s : Slc} {xs : List Prt} (A : Acc2 base h s xs) (c : Keeps h h') : Acc2 base h' s xs := A.chg c fun _ _ f => f
theorem Acc2.row {base : Nat} {h : AHeap} {s : Slc} {xs : List Prt} (A : Acc2 base h s xs) : Row2 h s xs := by
 rcases A.st with ⟨rfl, rfl⟩ | ⟨b, rfl, h2, h3⟩
 ·exact Row2.nil _ _ _
 ·exact row2_blk h2 (A.lt ⟨b, 0, some 3⟩ rfl).1 rfl
theorem Acc2.len {base : Nat} {h : AHeap} {s : Slc} {xs : List Prt} (A : Acc2 base h s xs) : s.len = xs.length := A.row.len
theorem rdS_two {h : AHeap} {x : Prt} {e : TypeId} : Gx.rdS 2 (⟨some ⟨h.next, 0, some 0⟩, 1, 1⟩ : Slc) (h.new (.cells (enc2 x) e true 0)) = some (enc2 x) := by
 have := rdL_all (h := h.new (.cells (enc2 x) e true 0)) (b := h.next) (c := enc2 x) (e := e) (r := true) (fz := 0) (by simp)
 simpa [Gx.rdS, enc2] using this
theorem Acc2.push {base : Nat} {h : AHeap} {s : Slc} {xs : List Prt} (A : Acc2 base h s xs) (x : Prt) (hs : xs.length ≤ 1000000) (hbase : base ≤ h.next) :
  ∃ s' h', appendA 2 24 35 h s (enc2 x) 1 = some (s', h') ∧ Acc2 base h' s' (xs ++ [x]) ∧ Chg (ofS s) h h' := by
 rcases A.st with ⟨rfl, rfl⟩ | ⟨b, rfl, h2, h3⟩
 ·refine ⟨⟨some ⟨h.next, 0, some 3⟩, 1, 1⟩, h.new (.cells (enc2 x) 35 true 0), ?_, ⟨.inr ⟨h.next, rfl, by simp [flat2], by simp⟩, ?_⟩, (Keeps.new h _).wk fun _ _ f => f.elim⟩
  ·simp only [appendA]
   rw [if_neg (by omega), if_pos (by omega)]
  ·intro a ha; cases ha; simp; omega
 ·have hb := A.lt ⟨b, 0, some 3⟩ rfl
  have hl := flat2_length xs
  have e : flat2 xs ++ enc2 x = flat2 (xs ++ [x]) := by rw [flat2_append]; simp [flat2]
  refine ⟨⟨some ⟨h.next, 0, some 3⟩, xs.length + 1, xs.length + 1⟩, (h.kill b).new (.cells (flat2 (xs ++ [x])) 35 true 0), ?_, ⟨.inr ⟨h.next, by simp, by simp, by simp⟩, ?_⟩, ?_⟩
  ·have hx : 0 < xs.length := List.length_pos_iff.2 h3
   simp only [appendA]
   rw [if_neg (by omega), if_pos (by omega)]
   simp only [h2]
   rw [if_pos ⟨by omega, trivial, by omega, by omega, trivial, trivial, rfl⟩, ← hl, List.take_length, e]
  ·intro a ha; cases ha; simp; omega
  ·exact Chg.kill_new (.inr ⟨⟨b, 0, some 3⟩, rfl, rfl⟩)
theorem Acc.push' {α : Type} {enc : α → Value} {e : TypeId} {base bytes : Nat} {h : AHeap} {s : Slc} {xs : List α} (A : Acc enc e base h s xs) (ho : ∀ x, one (enc x) = true) (x : α) (hs : 2 * (xs.length + 1) * bytes ≤ 281474976710656) (h1 : 1 ≤ bytes) (hbase : base ≤ h.next) :
  ∃ s' h', appendA 1 bytes e h s [enc x] 1 = some (s', h') ∧ Acc enc e base h' s' (xs ++ [x]) ∧ Chg (ofS s) h h' ∧ ∀ a, s'.a = some a → h.next ≤ a.block := by
 rcases A.st with ⟨rfl, rfl⟩ | ⟨b, g⟩
 ·refine ⟨⟨some ⟨h.next, 0, some 2⟩, 1, 1⟩, h.new (outB enc e [x]), ?_, ⟨.inr ⟨h.next, rfl, by simp, by simp⟩, ?_⟩, (Keeps.new h _).wk fun _ _ f => f.elim, ?_⟩
  ·simp only [appendA]
   rw [if_neg (by omega), if_pos (by simp at hs ⊢; omega)]
   rfl
  ·intro a ha; cases ha; simp; omega
  ·intro a ha; cases ha; simp
 ·have hb := A.lt ⟨b, 0, some 2⟩ (by rw [g.s])
  have ap := g.append (bytes := bytes) (ys := [x]) ho (by simp) (by simpa using hs) h1
  refine ⟨_, _, ap, ⟨.inr ⟨h.next, rfl, by simp, by simp⟩, ?_⟩, Chg.kill_new (.inr ⟨⟨b, 0, some 2⟩, by rw [g.s], rfl⟩), ?_⟩
  ·intro a ha; cases ha; simp; omega
  ·intro a ha; cases ha; simp
end Gq
namespace Gq
open Go Gx Go.Proofs
def idxs (out : List Prt) : List Int := out.map (·.1)
def mapE : List Prt → Nat → List (Value × Value × Nat)
 | [], _ => []
 | x :: l, i => (.int .i64 x.1, .bool true, i) :: mapE l (i + 1)
theorem mapE_append : ∀ (l : List Prt) (x : Prt) (i : Nat), mapE (l ++ [x]) i = mapE l i ++ [(.int .i64 x.1, .bool true, i + l.length)]
 | [], x, i => rfl
 | y :: l, x, i => by
  simp only [List.cons_append, mapE, mapE_append l x (i + 1), List.length_cons]
  rw [show i + 1 + l.length = i + (l.length + 1) by omega]
theorem find_mem (a : Int) : ∀ (out : List Prt) (b c : Nat), a ∈ idxs out → ∃ p, findE (.int .i64 a) (mapE out b) c = some (some (p, .bool true))
 | [], b, c, h => by simp [idxs] at h
 | x :: l, b, c, h => by
  by_cases e : a = x.1
  ·subst e; exact ⟨c, by simp [mapE, findE, keyEq]⟩
  ·have : a ∈ idxs l := by simp [idxs, e] at h ⊢; exact h
   obtain ⟨p, hp⟩ := find_mem a l (b + 1) (c + 1) this
   refine ⟨p, ?_⟩
   have hb : (a == x.1) = false := by simpa using e
   simp only [mapE, findE, keyEq, decide_true, cond_true, hb]
   exact hp
theorem find_not (a : Int) : ∀ (out : List Prt) (b c : Nat), a ∉ idxs out → findE (.int .i64 a) (mapE out b) c = some none
 | [], b, c, _ => rfl
 | x :: l, b, c, h => by
  have e : a ≠ x.1 := fun e => h (by simp [idxs, e])
  have h2 : a ∉ idxs l := fun e => h (by simp [idxs] at e ⊢; exact .inr e)
  have hb : (a == x.1) = false := by simpa using e
  simp only [mapE, findE, keyEq, decide_true, cond_true, hb]
  exact find_not a l (b + 1) (c + 1) h2
theorem look_seen {h : AHeap} {mb : Nat} {out : List Prt} (hb : h.get mb = some (.map (mapE out 0) out.length)) (a : Int) : ∃ b, lookE decB (.bool false) h (some mb) (.int .i64 a) = some (decide (a ∈ idxs out), b) := by
 simp only [lookE, hb]
 by_cases e : a ∈ idxs out
 ·obtain ⟨p, hp⟩ := find_mem a out 0 0 e
  exact ⟨true, by simp [hp, decB, e]⟩
 ·exact ⟨false, by simp [find_not a out 0 0 e, decB, e]⟩
theorem upd_seen {h : AHeap} {mb : Nat} {out : List Prt} (hb : h.get mb = some (.map (mapE out 0) out.length)) (x : Prt) (e : x.1 ∉ idxs out) : updE h mb (.int .i64 x.1) (.bool true) = some (h.set mb (.map (mapE (out ++ [x]) 0) (out ++ [x]).length)) := by
 simp only [updE, hb, find_not x.1 out 0 0 e, mapE_append, Nat.zero_add, List.length_append, List.length_singleton]
def goodP (k m : Nat) (n : Int) (x : Prt) : Int := if ¬ (0 ≤ x.1 ∧ x.1 < ((k + m : Nat) : Int)) then 1 else if (x.2.size : Int) ≠ n then 4 else 0
def takeP (k : Nat) (out : List Prt) (x : Prt) : List Prt := if x.1 ∉ idxs out ∧ out.length < k then out ++ [x] else out
def unl (k m : Nat) (n : Int) : List Prt → List Prt → List Prt × Int
 | [], out => (out, 0)
 | x :: l, out => if goodP k m n x ≠ 0 then ([], goodP k m n x) else unl k m n l (takeP k out x)
theorem known_spec (k0 : Nat) (D : CallF) {h : AHeap} {pb f2 B sb fb k m : Nat} (p : PL h pb f2 B sb fb k m) (hR : k + m ≤ 255) (i : Int) : stripe_Plan_known k0 D (some ⟨pb, 0, none⟩) i h = some (decide (0 ≤ i ∧ i < ((k + m : Nat) : Int)), h) := by
 simp only [stripe_Plan_known]
 by_cases c : i ≥ 0
 ·refine ifp (decide_eq_true c) ?_
  refine bnd rfl (bnd (ldI_at p.blk rfl) (bnd rfl (bnd (ldI_at p.blk rfl) ?_)))
  rw [w64 ((k : Int) + (m : Int)) (by omega)]
  have : ((k : Int) + (m : Int)) = ((k + m : Nat) : Int) := by omega
  rw [this]; congr 3; rw [eq_iff_iff]; exact ⟨fun q => ⟨c, q⟩, fun q => q.2⟩
 ·refine ifn (by simpa using c) ?_
  rw [decide_eq_false (by omega)]
abbrev ulT := Option Addr → Int → Option Nat → Slc → Slc → Int → Int → AHeap → Option ((Slc × Int) × AHeap)
theorem unl_l0 (K : Nat) (D : CallF) (bot : ulT) {h0 : AHeap} {pb f2 B sb fb k m : Nat} (p : PL h0 pb f2 B sb fb k m) (hR : k + m ≤ 255) (n : Int) (y : Slc) {ps : List Prt} (R : Row2 h0 y ps) (hps : ps.length ≤ 1000000) {mb : Nat} (hmb : h0.next ≤ mb) :
  ∀ (d i : Nat) (h : AHeap) (o : Slc) (out : List Prt), i + d = ps.length → Keeps h0 h → mb < h.next → h.get mb = some (.map (mapE out 0) out.length) → Acc2 (mb + 1) h o out → out.length ≤ i →
  ∃ h' o', iterK bot (d + 1) (stripe_Plan_unlike_l0b K D (fun (out3 : Slc) (h4 : AHeap) => some ((out3, 0), h4))) (some ⟨pb, 0, none⟩) n (some mb) o y (ps.length : Int) (i : Int) h = some ((o', (unl k m n (ps.drop i) out).2), h') ∧ Keeps h0 h' ∧ Acc2 (mb + 1) h' o' (unl k m n (ps.drop i) out).1
 | 0, i, h, o, out, hi, kh, hm, hb, A, _ => by
  obtain rfl : i = ps.length := by omega
  rw [List.drop_length]
  refine ⟨h, o, ?_, kh, A⟩
  rw [iterK_s]; simp only [stripe_Plan_unlike_l0b]
  exact ifn (by simp) rfl
 | d + 1, i, h, o, out, hi, kh, hm, hb, A, ho => by
  obtain ⟨x, hx⟩ := isome (l := ps) (i := i) (by omega)
  obtain ⟨q, i1, i2⟩ := (R.keeps kh).ld hx
  rw [dropc hx]
  let xb := h.next
  let h28 := (h.new (.cells [.int .i64 0, .string ⟨#[]⟩] 35 true 0)).set xb (.cells (enc2 x) 35 true 0)
  have hz : (h.new (.cells [.int .i64 0, .string ⟨#[]⟩] 35 true 0)).get xb = some (.cells [.int .i64 0, .string ⟨#[]⟩] 35 true 0) := by simp [xb]
  have k28 : Keeps h h28 := Chg.beh (Keeps.new h _) (Chg.set (S := (· = xb)) (.inr rfl)) (fun w hw e => by have : w = h.next := e; omega)
  have hx28 : h28.get xb = some (.cells (enc2 x) 35 true 0) := set_get _ _ _
  have kh28 := kh.trans k28
  have p28 := p.keeps kh28
  have hb28 : h28.get mb = some (.map (mapE out 0) out.length) := (k28.oth _ hm (fun f => f)).trans hb
  have A28 := A.keeps k28
  have n28 : h28.next = h.next + 1 := rfl
  have hst := stL_at (sp := none) hz (n := 2) (cs := enc2 x) rfl rfl rfl (by decide)
  have hkn := known_spec K D p28 hR x.1
  have l0 : ldI .i64 ⟨xb, 0, none⟩ h28 = some x.1 := ldI_at hx28 rfl
  have l1 : ldS ⟨xb, 1, none⟩ h28 = some x.2 := ldS_at hx28 rfl
  by_cases g1 : 0 ≤ x.1 ∧ x.1 < ((k + m : Nat) : Int)
  ·by_cases g2 : (x.2.size : Int) = n
   ·have hg : goodP k m n x = 0 := by unfold goodP; rw [if_neg (by simpa using g1), if_neg (by simpa using g2)]
    have hun : unl k m n (x :: ps.drop (i + 1)) out = unl k m n (ps.drop (i + 1)) (takeP k out x) := by simp only [unl]; rw [if_neg (by simpa using hg)]
    obtain ⟨bb, hlk⟩ := look_seen hb28 x.1
    by_cases t : x.1 ∉ idxs out ∧ out.length < k
    ·have ht : takeP k out x = out ++ [x] := by unfold takeP; rw [if_pos t]
     let h45 := h28.set mb (.map (mapE (out ++ [x]) 0) (out ++ [x]).length)
     have c45 : Chg (· = mb) h28 h45 := Chg.set (.inr rfl)
     have hx45 : h45.get xb = some (.cells (enc2 x) 35 true 0) := (c45.oth _ (by show h.next < h.next + 1; omega) (fun e => by have : h.next = mb := e; omega)).trans hx28
     let h50 := h45.new (.cells (enc2 x) 35 true 0)
     have k50 : Keeps h45 h50 := Keeps.new _ _
     have A45 : Acc2 (mb + 1) h45 o out := A28.chg c45 (fun a ha e => by have : a.block = mb := e; have := (A28.lt a ha).2; omega)
     have A50 := A45.keeps k50
     obtain ⟨o2, h51, ra, A51, c51⟩ := A50.push x (by omega) (by show mb + 1 ≤ h.next + 1 + 1; omega)
     have kh45 : Keeps h0 h45 := Chg.beh kh28 c45 (fun w hw e => by have : w = mb := e; omega)
     have kh51 : Keeps h0 h51 := Chg.beh (kh45.trans k50) c51 (fun w hw e => by
      obtain ⟨a, ha, rfl⟩ := e
      have := (A50.lt a ha).2; omega)
     have hb51 : h51.get mb = some (.map (mapE (out ++ [x]) 0) (out ++ [x]).length) := by
      rw [c51.oth mb (by show mb < h.next + 1 + 1; omega) (fun e => by
       obtain ⟨a, ha, he⟩ := e
       have := (A50.lt a ha).2; omega), k50.oth mb (by show mb < h.next + 1; omega) (fun f => f)]
      exact set_get _ _ _
     obtain ⟨h', o', r, k', A'⟩ := unl_l0 K D bot p hR n y R hps hmb d (i + 1) h51 o2 (out ++ [x]) (by omega) kh51 (by have := c51.nx; have : h50.next = h.next + 1 + 1 := rfl; omega) hb51 A51 (by simp; omega)
     rw [hun, ht]
     refine ⟨h', o', ?_, k', A'⟩
     rw [iterK_s]; simp only [stripe_Plan_unlike_l0b]
     refine ifp (by simp; omega) ?_
     refine jn ?_
     refine bnd i1 (bnd i2 (bnd (dec2 x) ?_))
     refine bnd hst (bnd l0 (bnd hkn ?_))
     refine ifn (by simpa using g1) ?_
     refine bnd l1 ?_
     refine ifn (by simpa using g2) ?_
     refine jn ?_
     refine bnd l0 (bnd hlk ?_)
     refine ifp (by simpa using t.1) ?_
     refine bnd rfl (bnd (ldI_at p28.blk rfl) ?_)
     refine ifp (by rw [A.len]; simpa using t.2) ?_
     refine bnd rfl (bnd l0 (bnd rfl ?_))
     refine bnd (upd_seen hb28 x t.1) ?_
     refine bnd rfl (bnd (ldA_at hx45 rfl) (bnd (dec2 x) ?_))
     refine bnd rdS_two (bnd ra ?_)
     rw [← w1 (i := i) (by omega)] at r
     exact r
    ·have ht : takeP k out x = out := by unfold takeP; rw [if_neg t]
     obtain ⟨h', o', r, k', A'⟩ := unl_l0 K D bot p hR n y R hps hmb d (i + 1) h28 o out (by omega) kh28 (by omega) hb28 A28 (by omega)
     rw [hun, ht]
     refine ⟨h', o', ?_, k', A'⟩
     rw [iterK_s]; simp only [stripe_Plan_unlike_l0b]
     refine ifp (by simp; omega) ?_
     refine jn ?_
     refine bnd i1 (bnd i2 (bnd (dec2 x) ?_))
     refine bnd hst (bnd l0 (bnd hkn ?_))
     refine ifn (by simpa using g1) ?_
     refine bnd l1 ?_
     refine ifn (by simpa using g2) ?_
     refine jn ?_
     refine bnd l0 (bnd hlk ?_)
     by_cases e : x.1 ∈ idxs out
     ·refine ifn (by simpa using e) ?_
      refine ifn (by decide) ?_
      rw [← w1 (i := i) (by omega)] at r
      exact r
     ·refine ifp (by simpa using e) ?_
      refine bnd rfl (bnd (ldI_at p28.blk rfl) ?_)
      refine ifn (by rw [A.len]; simp; have : ¬ out.length < k := fun q => t ⟨e, q⟩; omega) ?_
      rw [← w1 (i := i) (by omega)] at r
      exact r
   ·have hg : goodP k m n x = 4 := by unfold goodP; rw [if_neg (by simpa using g1), if_pos (by simpa using g2)]
    have hun : unl k m n (x :: ps.drop (i + 1)) out = ([], 4) := by simp only [unl]; rw [hg, if_pos (by decide)]
    rw [hun]
    refine ⟨h28, ⟨none, 0, 0⟩, ?_, kh28, Acc2.nil _ _⟩
    rw [iterK_s]; simp only [stripe_Plan_unlike_l0b]
    refine ifp (by simp; omega) ?_
    refine jn ?_
    refine bnd i1 (bnd i2 (bnd (dec2 x) ?_))
    refine bnd hst (bnd l0 (bnd hkn ?_))
    refine ifn (by simpa using g1) ?_
    refine bnd l1 ?_
    exact ifp (by simpa using g2) rfl
  ·have hg : goodP k m n x = 1 := by unfold goodP; rw [if_pos g1]
   have hun : unl k m n (x :: ps.drop (i + 1)) out = ([], 1) := by simp only [unl]; rw [hg, if_pos (by decide)]
   rw [hun]
   refine ⟨h28, ⟨none, 0, 0⟩, ?_, kh28, Acc2.nil _ _⟩
   rw [iterK_s]; simp only [stripe_Plan_unlike_l0b]
   refine ifp (by simp; omega) ?_
   refine jn ?_
   refine bnd i1 (bnd i2 (bnd (dec2 x) ?_))
   refine bnd hst (bnd l0 (bnd hkn ?_))
   exact ifp (by rw [decide_eq_false g1]; rfl) rfl
def unlA (k m : Nat) (ps : List Prt) (long : Int) : List Prt × Int := if (eachA k long).2 ≠ 0 then ([], (eachA k long).2) else unl k m (eachA k long).1 ps []
theorem unlike_spec {k0 : Nat} (D : CallF) {h : AHeap} {pb f2 B sb fb k m : Nat} (p : PL h pb f2 B sb fb k m) (hk : 0 < k) (hR : k + m ≤ 255) {y : Slc} {ps : List Prt} (R : Row2 h y ps) (hps : ps.length ≤ 1000000) (hkp : ps.length < k0) (long : Int) :
  ∃ h' o, stripe_Plan_unlike k0 D (some ⟨pb, 0, none⟩) y long h = some ((o, (unlA k m ps long).2), h') ∧ Keeps h h' ∧ Acc2 (h.next + 1) h' o (unlA k m ps long).1 := by
 simp only [stripe_Plan_unlike]
 have re := each_spec k0 D p hk (by omega) long
 unfold unlA
 by_cases c : (eachA k long).2 = 0
 ·rw [if_neg (by simpa using c)]
  let h2 := h.new (.map [] 0)
  have k2 : Keeps h h2 := Keeps.new _ _
  obtain ⟨bot1, e1⟩ := iterK_of (α := ulT) (fun _ _ _ _ _ _ _ _ => none) (stripe_Plan_unlike_l0b k0 D fun (out3 : Slc) (h4 : AHeap) => some ((out3, 0), h4)) (show ps.length + 1 ≤ k0 by omega)
  obtain ⟨h', o', r, k', A'⟩ := unl_l0 k0 D bot1 p hR (eachA k long).1 y R hps (mb := h.next) (Nat.le_refl _) ps.length 0 h2 ⟨none, 0, 0⟩ [] (by omega) k2 (by show h.next < h.next + 1; omega) (by simp [h2, mapE]) (Acc2.nil _ _) (by simp)
  rw [List.drop_zero] at r A'
  refine ⟨h', o', ?_, k', A'⟩
  refine bnd re ?_
  refine ifn (by simpa using c) ?_
  refine jn ?_
  rw [R.len]
  unfold stripe_Plan_unlike_l0
  rw [e1]
  exact r
 ·rw [if_pos (by simpa using c)]
  refine ⟨h, ⟨none, 0, 0⟩, ?_, Chg.refl _ _, Acc2.nil _ _⟩
  refine bnd re ?_
  exact ifp (by simpa using c) rfl
end Gq
namespace Gq
open Go Gx Go.Proofs
theorem cau_cast (k t : Nat) : cau k t = ((cauN k t : Nat) : Int) := by
 unfold cauN cau
 split
 ·split <;> rfl
 ·simp
theorem mat_cauN (k N : Nat) : mat N (cau k) = matN N (cauN k) := mat_congr fun t _ => cau_cast k t
def invR (k : Nat) (ps : List Prt) : Nat → Nat := invU k (pickF k (cauN k) (natOf (idxs ps)))
def rowI (k : Nat) (ps : List Prt) (i : Nat) : List Int := (List.range k).map fun j => ((invR k ps (i * k + j) : Nat) : Int)
def datas (ps : List Prt) : List ByteArray := ps.map (·.2)
def pieceA (k : Nat) (ps : List Prt) (i : Nat) : ByteArray := (mixA (datas ps) (rowI k ps i)).1
def piecesA (k : Nat) (ps : List Prt) : List ByteArray := (List.range k).map (pieceA k ps)
structure GoodK (k m n : Nat) (ps : List Prt) : Prop where
 len : ps.length = k
 nd : (idxs ps).Nodup
 rng : ∀ x ∈ ps, 0 ≤ x.1 ∧ x.1 < ((k + m : Nat) : Int)
 sz : ∀ x ∈ ps, x.2.size = n
theorem subL_rowS {B k i N : Nat} {sp : Option Nat} (hsp : spOk sp 1 = true) (hk : 0 < k) (hi : i * k + k ≤ N) (hN : N ≤ 70000) (hi2 : i ≤ 255) : Gx.subL 1 (⟨some ⟨B, 0, sp⟩, N, N⟩ : Slc) (some (IntKind.wrap .i64 ((i : Int) * (k : Int)))) (some (IntKind.wrap .i64 ((IntKind.wrap .i64 ((i : Int) + 1)) * (k : Int)))) none = some (⟨some ⟨B, i * k, sp⟩, k, N - i * k⟩ : Slc) := by
 have e1 : (i : Int) * (k : Int) = ((i * k : Nat) : Int) := by simp
 have e3 : IntKind.wrap .i64 ((i : Int) + 1) = ((i + 1 : Nat) : Int) := by rw [w64 _ (by omega)]; omega
 have e4 : ((i + 1 : Nat) : Int) * (k : Int) = ((i * k + k : Nat) : Int) := by push_cast; rw [Int.add_mul, Int.one_mul]
 have e2 : IntKind.wrap .i64 ((i : Int) * (k : Int)) = ((i * k : Nat) : Int) := by rw [e1]; exact w64 _ (by omega)
 rw [e3, e4, e2, w64 ((i * k + k : Nat) : Int) (by omega)]
 simp only [Gx.subL, Option.getD_none, Option.getD_some]
 rw [if_pos (by omega), if_pos hsp, if_neg (by omega)]
 simp only [Int.toNat_natCast, Nat.mul_one, Nat.zero_add, Option.isSome_none, Bool.false_eq_true, if_false]
 rw [show (((i * k + k : Nat) : Int) - ((i * k : Nat) : Int)).toNat = k by omega, show ((N : Int) - ((i * k : Nat) : Int)).toNat = N - i * k by omega]
theorem matN_rowR {k N : Nat} {g : Nat → Nat} {h : AHeap} {B : Nat} (hb : h.get B = some (outB encI 3 (matN N g))) (hl : B < h.next) {i : Nat} (hi : i * k + k ≤ N) (cap : Nat) (sp : Option Nat) : Row encI h (⟨some ⟨B, i * k, sp⟩, k, cap⟩ : Slc) ((List.range k).map fun j => ((g (i * k + j) : Nat) : Int)) := by
 have := Row.of_block (enc := encI) (h := h) (xs := (List.range k).map fun j => ((g (i * k + j) : Nat) : Int)) (b := B) (o := i * k) (sp := sp) (cap := cap) (c := (matN N g).map encI) (e := 3) (r := true) (fz := 0) hb hl (fun j x hx => by
  have hj : j < k := by
   have := (List.getElem?_eq_some_iff.1 hx).1; simpa using this
  have hx' : x = ((g (i * k + j) : Nat) : Int) := by simp [hj] at hx; exact hx.symm
  unfold matN
  rw [List.getElem?_map, mat_get (show i * k + j < N by omega), hx']; rfl)
 simpa using this
theorem brow_spec (k0 : Nat) (D : CallF) {h : AHeap} {pb f2 B sb fb k m : Nat} (p : PL h pb f2 B sb fb k m) (hk : 0 < k) (hk2 : k ≤ 255) {B2 : Nat} {sp : Option Nat} (hsp : spOk sp 1 = true) {i : Nat} (hi : i < k) :
  ∃ h', stripe_Plan_row k0 D (some ⟨pb, 0, none⟩) ((k : Int), (k : Int), whole B2 (k * k) sp) (i : Int) h = some ((⟨some ⟨B2, i * k, sp⟩, k, k * k - i * k⟩ : Slc), h') ∧ Keeps h h' := by
 simp only [stripe_Plan_row]
 let h1 := h.new (.cells (mcell (k : Int) (k : Int) (whole B2 (k * k) sp)) 50 true 0)
 have k1 : Keeps h h1 := Keeps.new _ _
 have b1 : h1.get h.next = some (.cells (mcell (k : Int) (k : Int) (whole B2 (k * k) sp)) 50 true 0) := by simp [h1]
 have p1 := p.keeps k1
 have l0 : ldI .i64 ⟨pb, 0, none⟩ h1 = some (k : Int) := ldI_at p1.blk rfl
 have hle : i * k + k ≤ k * k := by have := Nat.mul_le_mul_right k hi; rw [Nat.succ_mul] at this; exact this
 have hN : k * k ≤ 65025 := Nat.le_trans (Nat.mul_le_mul hk2 hk2) (by decide)
 refine ⟨h1, ?_, k1⟩
 have hL : ldL ⟨h.next, 2, none⟩ h1 = some (whole B2 (k * k) sp) := by simp [ldL, AHeap.rd1, b1, mcell, decL, whole]
 refine bnd hL (bnd rfl (bnd l0 (bnd rfl (bnd l0 ?_))))
 exact bnd (subL_rowS hsp hk hle (by omega) (by omega)) rfl
theorem rdS_blk {h : AHeap} {b : Nat} {v : Value} {e : TypeId} (hb : h.get b = some (.cells [v] e true 0)) : Gx.rdS 1 (⟨some ⟨b, 0, some 0⟩, 1, 1⟩ : Slc) h = some [v] := by
 have := rdL_all hb
 simpa [Gx.rdS] using this
theorem take_map {α β : Type} {f : α → β} {l : List α} {i : Nat} {x : α} (hx : l[i]? = some x) : (l.take i).map f ++ [f x] = (l.take (i + 1)).map f := by
 rw [List.take_add_one, hx]; simp
abbrev pc1T := Option Addr → Slc → Slc → Slc → Int → Int → AHeap → Option ((Slc) × AHeap)
theorem pc_l1 (K : Nat) (D : CallF) (j) (bot : pc1T) (pa : Option Addr) {h0 : AHeap} {y : Slc} {ps : List Prt} (R : Row2 h0 y ps) (hps : ps.length ≤ 1000) :
  ∀ (d i : Nat) (h : AHeap) (rs ds : Slc), i + d = ps.length → Keeps h0 h → Acc encI 3 h0.next h rs (idxs (ps.take i)) → Acc encS 9 h0.next h ds (datas (ps.take i)) → ApartS rs ds →
  ∃ h' rs' ds', iterK bot (d + 1) (stripe_Plan_pieces_l1b K D j) pa rs ds y (ps.length : Int) (i : Int) h = j pa rs' ds' h' ∧ Keeps h0 h' ∧ Acc encI 3 h0.next h' rs' (idxs ps) ∧ Acc encS 9 h0.next h' ds' (datas ps)
 | 0, i, h, rs, ds, hi, kh, A, Bd, _ => by
  obtain rfl : i = ps.length := by omega
  rw [List.take_length] at A Bd
  refine ⟨h, rs, ds, ?_, kh, A, Bd⟩
  rw [iterK_s]; simp only [stripe_Plan_pieces_l1b]
  exact ifn (by simp) rfl
 | d + 1, i, h, rs, ds, hi, kh, A, Bd, ap => by
  obtain ⟨x, hx⟩ := isome (l := ps) (i := i) (by omega)
  obtain ⟨q, i1, i2⟩ := (R.keeps kh).ld hx
  let xb := h.next
  let h57 := (h.new (.cells [.int .i64 0, .string ⟨#[]⟩] 35 true 0)).set xb (.cells (enc2 x) 35 true 0)
  have hz : (h.new (.cells [.int .i64 0, .string ⟨#[]⟩] 35 true 0)).get xb = some (.cells [.int .i64 0, .string ⟨#[]⟩] 35 true 0) := by simp [xb]
  have k57 : Keeps h h57 := Chg.beh (Keeps.new h _) (Chg.set (S := (· = xb)) (.inr rfl)) (fun w hw e => by have : w = h.next := e; omega)
  have hx57 : h57.get xb = some (.cells (enc2 x) 35 true 0) := set_get _ _ _
  have n57 : h57.next = h.next + 1 := rfl
  let h58 := h57.resv 2
  have k58 : Keeps h57 h58 := ⟨by show h57.next ≤ h57.next + 2; omega, fun _ _ _ => rfl⟩
  have hx58 : h58.get xb = some (.cells (enc2 x) 35 true 0) := hx57
  let h60 := h58.set (h57.next + 0) (.cells [.int .i64 x.1] 3 true 0)
  have c60 : Chg (· = h57.next) h58 h60 := Chg.set (.inr rfl)
  have k60 : Keeps h h60 := Chg.beh (k57.trans k58) c60 (fun w hw e => by have : w = h57.next := e; omega)
  have n60 : h60.next = h.next + 3 := rfl
  have hx60 : h60.get xb = some (.cells (enc2 x) 35 true 0) := (c60.oth xb (by show h.next < h.next + 1 + 2; omega) (fun e => by have : h.next = h.next + 1 := e; omega)).trans hx58
  have b60 : h60.get (h57.next + 0) = some (.cells [encI x.1] 3 true 0) := set_get _ _ _
  have hn0 := kh.nx
  obtain ⟨rs2, h61, ra, A61, c61, r61⟩ := Acc.push' (A.keeps k60) (bytes := 8) (fun _ => rfl) x.1 (by simp [idxs]; omega) (by decide) (by omega)
  have n61 := c61.nx
  have B61 : Acc encS 9 h0.next h61 ds (datas (ps.take i)) := (Bd.keeps k60).chg c61 (fun a ha e => by
   obtain ⟨a2, ha2, he⟩ := e
   exact ap a2 a ha2 ha he.symm)
  have hx61 : h61.get xb = some (.cells (enc2 x) 35 true 0) := (c61.oth xb (by rw [n60]; show h.next < h.next + 3; omega) (fun e => by
   obtain ⟨a2, ha2, he⟩ := e
   have := (A.lt a2 ha2).1
   have : h.next = a2.block := he
   omega)).trans hx60
  let h66 := h61.set (h57.next + 1) (.cells [.string x.2] 9 true 0)
  have c66 : Chg (· = h57.next + 1) h61 h66 := Chg.set (.inr rfl)
  have b66 : h66.get (h57.next + 1) = some (.cells [encS x.2] 9 true 0) := set_get _ _ _
  have A66 : Acc encI 3 h0.next h66 rs2 (idxs (ps.take i) ++ [x.1]) := A61.chg c66 (fun a ha e => by
   have := r61 a ha
   have : a.block = h57.next + 1 := e
   omega)
  have B66 : Acc encS 9 h0.next h66 ds (datas (ps.take i)) := B61.chg c66 (fun a ha e => by
   have := (Bd.lt a ha).1
   have : a.block = h57.next + 1 := e
   omega)
  obtain ⟨ds2, h67, rb, B67, c67, r67⟩ := Acc.push' B66 (bytes := 16) encS_one x.2 (by simp [datas]; omega) (by decide) (by show h0.next ≤ h61.next; omega)
  have hapart : ∀ a b, rs2.a = some a → ds.a = some b → a.block ≠ b.block := fun a b ha hb e => by
   have := r61 a ha
   have := (Bd.lt b hb).1
   omega
  have A67 : Acc encI 3 h0.next h67 rs2 (idxs (ps.take i) ++ [x.1]) := A66.chg c67 (fun a ha e => by
   obtain ⟨a2, ha2, he⟩ := e
   exact hapart a a2 ha ha2 he)
  have e1 : idxs (ps.take i) ++ [x.1] = idxs (ps.take (i + 1)) := take_map (f := fun z : Prt => z.1) hx
  have e2 : datas (ps.take i) ++ [x.2] = datas (ps.take (i + 1)) := take_map (f := fun z : Prt => z.2) hx
  rw [e1] at A67
  rw [e2] at B67
  have kh61 : Keeps h0 h61 := Chg.beh (kh.trans k60) c61 (fun w hw e => by
   obtain ⟨a2, ha2, rfl⟩ := e
   have := (A.lt a2 ha2).2; omega)
  have kh66 : Keeps h0 h66 := Chg.beh kh61 c66 (fun w hw e => by have : w = h57.next + 1 := e; omega)
  have kh67 : Keeps h0 h67 := beh_acc kh66 B66 c67
  have ap67 : ApartS rs2 ds2 := fun a b ha hb e => by
   have q1 := (A66.lt a ha).1
   have q2 := r67 b hb
   omega
  obtain ⟨h', rs', ds', r, k', A', B'⟩ := pc_l1 K D j bot pa R hps d (i + 1) h67 rs2 ds2 (by omega) kh67 A67 B67 ap67
  refine ⟨h', rs', ds', ?_, k', A', B'⟩
  rw [iterK_s]; simp only [stripe_Plan_pieces_l1b]
  refine ifp (by simp; omega) ?_
  have hst := stL_at (sp := none) hz (n := 2) (cs := enc2 x) rfl rfl rfl (by decide)
  refine bnd i1 (bnd i2 (bnd (dec2 x) (bnd hst ?_)))
  refine bnd (ldI_at hx58 rfl) ?_
  refine bnd (rdS_blk b60) (bnd ra ?_)
  refine bnd (ldS_at hx61 rfl) (gp (sw2 (bnd (ldS_at hx60 rfl) rfl) (bnd (ldS_at hx58 rfl) rfl)) ?_)
  refine bnd (rdS_blk b66) (bnd rb ?_)
  rw [w1 (by omega)]
  exact r
end Gq
namespace Gq
open Go Gx Go.Proofs
theorem PL.cf {h h' : AHeap} {pb f2 B sb fb k m : Nat} (p : PL h pb f2 B sb fb k m) (c : Chg (· = f2) h h') (f : Fld h' f2) : PL h' pb f2 B sb fb k m :=
 p.fs2 ⟨c.nx, fun x hx hb => c.oth x hx hb, f⟩
abbrev pc0T := Option Addr → Slc → Option Addr → Slc → Int → Int → AHeap → Option ((Slc) × AHeap)
theorem pc_l0 {k0 : Nat} (hk0 : 70000 ≤ k0) (j) (bot : pc0T) {hs : AHeap} {pb f2 B sb fb k m : Nat} (p : PL hs pb f2 B sb fb k m) (hk : 0 < k) (hk2 : k ≤ 255) {bb B2 : Nat} {sp : Option Nat} (hsp : spOk sp 1 = true) {ps : List Prt} (hlen : ps.length = k) {n : Nat} (hsz : ∀ x ∈ ps, x.2.size = n) (hn : n ≤ 66000)
  (b1 : hs.get bb = some (.cells (mcell (k : Int) (k : Int) (whole B2 (k * k) sp)) 50 true 0)) (b2 : bb < hs.next) (b3 : bb ≠ f2) (d1 : hs.get B2 = some (outB encI 3 (matN (k * k) (invR k ps)))) (d2 : B2 < hs.next) (d3 : B2 ≠ f2)
  {ds : Slc} (Rd : Row encS hs ds (datas ps)) (nd : ∀ a, ds.a = some a → a.block ≠ f2) :
  ∀ (d i : Nat) (h : AHeap) (o : Slc), i + d = k → Chg (· = f2) hs h → Fld h f2 → Acc encS 9 hs.next h o ((List.range i).map (pieceA k ps)) →
  ∃ h' o', iterK bot (d + 1) (stripe_Plan_pieces_l0b k0 (DD k0) j) (some ⟨pb, 0, none⟩) ds (some ⟨bb, 0, none⟩) o (k : Int) (i : Int) h = j o' h' ∧ Chg (· = f2) hs h' ∧ Fld h' f2 ∧ Acc encS 9 hs.next h' o' (piecesA k ps)
 | 0, i, h, o, hi, c, f, A => by
  obtain rfl : i = k := by omega
  refine ⟨h, o, ?_, c, f, A⟩
  rw [iterK_s]; simp only [stripe_Plan_pieces_l0b]
  exact ifn (by simp) rfl
 | d + 1, i, h, o, hi, c, f, A => by
  have ph := p.cf c f
  have e1 : h.get bb = some (.cells (mcell (k : Int) (k : Int) (whole B2 (k * k) sp)) 50 true 0) := (c.oth _ b2 b3).trans b1
  obtain ⟨h1, r1, k1⟩ := brow_spec k0 (DD k0) ph hk hk2 (B2 := B2) hsp (i := i) (by omega)
  have p1 := ph.keeps k1
  have c1 : Chg (· = f2) hs h1 := c.trans k1.keeps
  have Rd1 : Row encS h1 ds (datas ps) := Rd.chg c1 (fun a ha e => nd a ha e)
  have g1 : h1.get B2 = some (outB encI 3 (matN (k * k) (invR k ps))) := (c1.oth _ d2 d3).trans d1
  have hle : i * k + k ≤ k * k := by have := Nat.mul_le_mul_right k (show i + 1 ≤ k by omega); rw [Nat.succ_mul] at this; exact this
  have Rc := matN_rowR g1 (Nat.lt_of_lt_of_le d2 c1.nx) hle (k * k - i * k) sp
  have dl : (datas ps).length = k := by simp [datas, hlen]
  have rl : (rowI k ps i).length = k := by simp [rowI]
  have mb : ∀ s ∈ datas ps, s.size ≤ 66000 := fun s hs => by
   obtain ⟨x, hx, rfl⟩ := List.mem_map.1 hs
   rw [hsz x hx]; exact hn
  obtain ⟨h2, r2, s2⟩ := fmix_spec (k := k0) (by omega) p1.fld p1.lf Rd1 Rc (fun a ha => nd a ha) (fun a ha => by cases ha; exact d3) (by rw [dl]; omega) (by rw [show ((List.range k).map fun j => ((invR k ps (i * k + j) : Nat) : Int)).length = k from rl]; omega)
   (fun x hx => by have := mb x hx; omega) (by rw [dl]; omega) (by rw [show ((List.range k).map fun j => ((invR k ps (i * k + j) : Nat) : Int)).length = k from rl]; omega) (fun x hx => by have := mb x hx; omega)
  have c2 : Chg (· = f2) hs h2 := c1.trans s2.chg
  have A1 := A.keeps k1
  have hf2 := p.lf
  have A2 : Acc encS 9 hs.next h2 o ((List.range i).map (pieceA k ps)) := A1.chg s2.chg (fun a ha e => by have : a.block = f2 := e; have := (A1.lt a ha).2; omega)
  obtain ⟨o3, h3, ra, A3, c3, _⟩ := A2.push (bytes := 16) encS_one (pieceA k ps i) (by simp; omega) (by decide) c2.nx
  have e2 : (List.range i).map (pieceA k ps) ++ [pieceA k ps i] = (List.range (i + 1)).map (pieceA k ps) := by rw [List.range_succ, List.map_append]; rfl
  rw [e2] at A3
  have c3' : Chg (· = f2) hs h3 := Chg.beh c2 c3 (fun x hx e => by
   obtain ⟨a, ha, rfl⟩ := e
   have := (A2.lt a ha).2; omega)
  have f3 : Fld h3 f2 := fldchg s2.fld (Nat.lt_of_lt_of_le p1.lf s2.nx) c3 (fun e => by
   obtain ⟨a, ha, he⟩ := e
   have := (A2.lt a ha).2; omega)
  obtain ⟨h', o', r, c', f', A'⟩ := pc_l0 hk0 j bot p hk hk2 hsp hlen hsz hn b1 b2 b3 d1 d2 d3 Rd nd d (i + 1) h3 o3 (by omega) c3' f3 A3
  refine ⟨h', o', ?_, c', f', A'⟩
  rw [iterK_s]; simp only [stripe_Plan_pieces_l0b]
  refine ifp (by simp; omega) ?_
  refine bnd rfl (bnd (ldA_at e1 rfl) (bnd rfl ?_))
  refine bnd r1 ?_
  have q2 : ldP (⟨pb, 0 + 2, none⟩ : Addr) h1 = some (some ⟨f2, 0, none⟩) := by simp [ldP, AHeap.rd1, p1.blk, decP]
  have q3 : ldP (⟨pb, 0 + 2, none⟩ : Addr) h = some (some ⟨f2, 0, none⟩) := by simp [ldP, AHeap.rd1, ph.blk, decP]
  refine bnd rfl (bnd q2 (gp (sw1 (bnd q3 rfl)) ?_))
  refine bnd r2 ?_
  refine bnd rdS_one (bnd ra ?_)
  rw [w1 (by omega)]
  exact r
theorem nodup_nat {l : List Int} (h : l.Nodup) (h0 : ∀ x ∈ l, 0 ≤ x) : (l.map Int.toNat).Nodup := by
 unfold List.Nodup at h ⊢
 rw [List.pairwise_map]
 exact h.imp_of_mem fun ha hb hne e => hne (by have := h0 _ ha; have := h0 _ hb; omega)
theorem GoodK.full {k m n : Nat} {ps : List Prt} (hk : 0 < k) (hR : k + m ≤ 255) (g : GoodK k m n ps) : rk k k (pickF k (cauN k) (natOf (idxs ps))) = k ∧ El (k * k) (pickF k (cauN k) (natOf (idxs ps))) ∧ (idxs ps).all (okR (k + m)) = true ∧ (∀ i, i < k → natOf (idxs ps) i < k + m) := by
 have hl : (idxs ps).length = k := by simp [idxs, g.len]
 have hr : ∀ a ∈ idxs ps, 0 ≤ a ∧ a < ((k + m : Nat) : Int) := fun a ha => by
  obtain ⟨x, hx, rfl⟩ := List.mem_map.1 ha
  exact g.rng x hx
 have hw : ∀ i, i < k → ((idxs ps).map Int.toNat)[i]? = some (natOf (idxs ps) i) := fun i hi => by
  obtain ⟨x, hx⟩ := isome (l := idxs ps) (i := i) (by omega)
  simp only [List.getElem?_map, hx, natOf]; rfl
 have hlt : ∀ x ∈ (idxs ps).map Int.toNat, x < k + m := fun x hx => by
  obtain ⟨a, ha, rfl⟩ := List.mem_map.1 hx
  have := hr a ha; omega
 have hwl : ∀ i, i < k → natOf (idxs ps) i < k + m := fun i hi => hlt _ (mem_of (hw i hi))
 refine ⟨any_rows (k := k) (n := k + m) hk hR (by simpa using hl) (nodup_nat g.nd fun a ha => (hr a ha).1) hlt _ hw (by omega), fun t ht => ?_, List.all_eq_true.2 fun a ha => ?_, hwl⟩
 ·have hd := (Nat.div_lt_iff_lt_mul hk).2 ht
  exact cauN_El hk (N := (k + m) * k) _ (pos_lt (hwl _ hd) (Nat.mod_lt t hk))
 ·have := hr a ha
  unfold okR
  rw [decide_eq_false (by omega), decide_eq_false (by omega)]; rfl
theorem pieces_spec {k0 : Nat} (hk0 : 200000 ≤ k0) {h : AHeap} {pb f2 B sb fb k m n : Nat} (p : PL h pb f2 B sb fb k m) (hk : 0 < k) (hR : k + m ≤ 255) {y : Slc} {ps : List Prt} (R : Row2 h y ps) (g : GoodK k m n ps) (hn : n ≤ 66000) :
  ∃ h' o, stripe_Plan_pieces k0 (DD k0) (some ⟨pb, 0, none⟩) y h = some (o, h') ∧ PL h' pb f2 B sb fb k m ∧ Chg (fun x => x = f2 ∨ x = fb) h h' ∧ Acc encS 9 h.next h' o (piecesA k ps) := by
 simp only [stripe_Plan_pieces]
 obtain ⟨full, hE, hok, _⟩ := g.full hk hR
 have hil : (idxs ps).length = k := by simp [idxs, g.len]
 have hN : (k + m) * k ≤ 65025 := Nat.le_trans (Nat.mul_le_mul hR (show k ≤ 255 by omega)) (by decide)
 have hkk : k * k ≤ 65025 := Nat.le_trans (Nat.mul_le_mul (show k ≤ 255 by omega) (show k ≤ 255 by omega)) (by decide)
 generalize hj5 : (fun (p1 : Option Addr) (rows2 : Slc) (data3 : Slc) (h4 : AHeap) => (p1.bind fun p6 => _ : Option ((Slc) × AHeap))) = j5
 obtain ⟨bot1, e1⟩ := iterK_of (α := pc1T) (fun _ _ _ _ _ _ _ => none) (stripe_Plan_pieces_l1b k0 (DD k0) j5) (show ps.length + 1 ≤ k0 by rw [g.len]; omega)
 obtain ⟨h1, rs, ds, r1, k1, A1, B1⟩ := pc_l1 k0 (DD k0) j5 bot1 (some ⟨pb, 0, none⟩) R (by rw [g.len]; omega) ps.length 0 h ⟨none, 0, 0⟩ ⟨none, 0, 0⟩ (by omega) (Chg.refl _ _) (Acc.nil _ _ _ _) (Acc.nil _ _ _ _) (fun a b ha _ => by cases ha)
 have p1 := p.keeps k1
 have M1 : Mx h1 B ((k + m) * k) (cauN k) := ⟨by rw [← mat_cauN]; exact p1.mat, p1.lb, cauN_El hk⟩
 have I1 : InM h1 (whole B ((k + m) * k)) (matN ((k + m) * k) (cauN k)) := M1.inM rfl
 obtain ⟨h2, X, r2, O2, k2⟩ := mpick_spec hk0 (DD k0) (r := ((k + m : Nat) : Int)) (c := (k : Int)) I1 (by rw [show (matN ((k + m) * k) (cauN k)).length = (k + m) * k from mat_length _ _]; omega) A1.row
 rw [pickP_ok (R := k + m) (C := k) (by omega) hR (by omega) (by omega) (cauN_El hk) (by omega) (by omega) hok, hil] at O2
 obtain ⟨⟨xr, xc, xs⟩, xcode⟩ := X
 have o1 : xr = (k : Int) := O2.r
 have o2 : xc = (k : Int) := O2.c
 have oI : InM h2 xs (matN (k * k) (pickF k (cauN k) (natOf (idxs ps)))) := O2.inm
 have ooff : ∀ a, xs.a = some a → h1.next ≤ a.block := O2.off
 subst o1 o2
 have p2 := p1.keeps k2
 obtain ⟨h11, r4, k4, n4, b4⟩ := mvar (h := h2) (e := 50) (r := (k : Int)) (c := (k : Int)) (s := xs)
 let h12 := h11.resv 1
 have k12 : Keeps h11 h12 := ⟨Nat.le_succ _, fun _ _ _ => rfl⟩
 have b12 : h12.get h2.next = some (.cells (mcell (k : Int) (k : Int) xs) 50 true 0) := b4
 have p12 := p2.keeps (k4.trans k12)
 have n12 : h12.next = h11.next + 1 := rfl
 have hs1 := p1.spc.ls
 have hs2 := p1.spc.lf
 obtain ⟨h17, Y, r17, O17, S17, c17⟩ := inverse_spec hk0 p12.spc (r := (k : Int)) (c := (k : Int)) (oI.keeps (k4.trans k12)) (by rw [show (matN (k * k) (pickF k (cauN k) (natOf (idxs ps)))).length = k * k from mat_length _ _]; omega) (fun a ha => by have := ooff a ha; omega)
 rw [invP_ok (by omega) (by omega) hE, if_pos full] at O17
 obtain ⟨⟨yr, yc, ys⟩, ycode⟩ := Y
 have u1 : yr = (k : Int) := O17.r
 have u2 : yc = (k : Int) := O17.c
 have uI : InM h17 ys (matN (k * k) (invR k ps)) := O17.inm
 have uoff : ∀ a, ys.a = some a → h12.next ≤ a.block := O17.off
 subst u1 u2
 have hEI : El (k * k) (invR k ps) := invU_El hk hE
 obtain ⟨B2, sp, hys, hsp, M17⟩ := uI.mx (by have := Nat.mul_pos hk hk; omega) hEI
 have uB2 : h12.next ≤ B2 := uoff ⟨B2, 0, sp⟩ (by rw [hys]; rfl)
 subst hys
 have hf := p12.lf
 have hgl := p12.spc.lf
 have m4 := k4.nx
 have m17 := c17.nx
 let h18 := h17.set (h11.next + 0) (.cells [.int .i64 0, .int .i64 0, .slice none 0 0] 50 true 0)
 have b18 : h18.get (h11.next + 0) = some (.cells [.int .i64 0, .int .i64 0, .slice none 0 0] 50 true 0) := set_get _ _ _
 let h19 := h18.set (h11.next + 0) (.cells (mcell (k : Int) (k : Int) (whole B2 (k * k) sp)) 50 true 0)
 have b19 : h19.get (h11.next + 0) = some (.cells (mcell (k : Int) (k : Int) (whole B2 (k * k) sp)) 50 true 0) := set_get _ _ _
 have c18 : Chg (· = h11.next) h17 h18 := Chg.set (.inr rfl)
 have c19' : Chg (· = h11.next) h18 h19 := Chg.set (.inr rfl)
 have c19 : Chg (· = h11.next) h17 h19 := c18.trans c19'
 have hpl := p2.lp; have hpf := p2.lf; have hpb := p2.lb; have hps := p2.spc.ls; have hpg := p2.spc.lf
 have p17 : PL h17 pb f2 B sb fb k m := ⟨(c17.oth _ p12.lp p12.n6).trans p12.blk, fldchg p12.fld p12.lf c17 (fun e => p12.n4 e.symm), (c17.oth _ p12.lb p12.n5).trans p12.mat, S17, Nat.lt_of_lt_of_le p12.lp c17.nx, Nat.lt_of_lt_of_le p12.lf c17.nx, Nat.lt_of_lt_of_le p12.lb c17.nx, p.n1, p.n2, p.n3, p.n4, p.n5, p.n6, p.n7, p.n8⟩
 have p19 : PL h19 pb f2 B sb fb k m := p17.chg c19 (fun e => by have : pb = h11.next := e; omega) (fun e => by have : f2 = h11.next := e; omega) (fun e => by have : B = h11.next := e; omega) (fun e => by have : sb = h11.next := e; omega) (fun e => by have : fb = h11.next := e; omega)
 have hB2g : h19.get B2 = some (outB encI 3 (matN (k * k) (invR k ps))) := (c19.oth _ M17.lt (fun e => by have : B2 = h11.next := e; omega)).trans M17.blk
 have hlB2 : B2 < h19.next := Nat.lt_of_lt_of_le M17.lt c19.nx
 have Rd12 : Row encS h12 ds (datas ps) := B1.row.keeps (k2.trans (k4.trans k12))
 have Rd19 : Row encS h19 ds (datas ps) := (Rd12.chg c17 (fun a ha e => by
  have := (B1.lt a ha).2
  have := p.spc.lf
  have : a.block = fb := e
  omega)).chg c19 (fun a ha e => by
  have := (B1.lt a ha).1
  have := k2.nx
  have : a.block = h11.next := e
  omega)
 have hp0f := p.lf
 obtain ⟨bot0, e0⟩ := iterK_of (α := pc0T) (fun _ _ _ _ _ _ _ => none) (stripe_Plan_pieces_l0b k0 (DD k0) fun (out20 : Slc) (h21 : AHeap) => some (out20, h21)) (show k + 1 ≤ k0 by omega)
 obtain ⟨h', o', rf, cf, ff, Af⟩ := pc_l0 (k0 := k0) (by omega) (fun (out20 : Slc) (h21 : AHeap) => some (out20, h21)) bot0 p19 hk (by omega) (bb := h11.next + 0) hsp g.len g.sz hn b19 (by show h11.next < h17.next; omega) (by show h11.next ≠ f2; omega) hB2g hlB2 (by omega) Rd19 (fun a ha e => by
  have := (B1.lt a ha).2
  omega) k 0 h19 ⟨none, 0, 0⟩ (by omega) (Chg.refl _ _) p19.fld (Acc.nil _ _ _ _)
 have K12 : Keeps h h12 := k1.trans (k2.trans (k4.trans k12))
 refine ⟨h', o', ?_, p19.cf cf ff, ?_, ⟨Af.st, fun a ha => ⟨(Af.lt a ha).1, Nat.le_trans (Nat.le_trans K12.nx (Nat.le_trans c17.nx c19.nx)) (Af.lt a ha).2⟩⟩⟩
 ·refine jn ?_
  rw [R.len]
  unfold stripe_Plan_pieces_l1
  rw [e1]
  refine r1.trans ?_
  subst hj5
  refine bnd rfl ?_
  have q1 : ldA 3 (⟨pb, 0 + 4, none⟩ : Addr) h1 = some (mcell ((k + m : Nat) : Int) (k : Int) (whole B ((k + m) * k))) := by
   simp only [ldA, AHeap.rdL, p1.blk]; rfl
  refine bnd q1 (bnd rfl (bnd r2 (bnd r4 ?_)))
  have q3 : ldP (⟨pb, 0 + 3, none⟩ : Addr) h12 = some (some ⟨sb, 0, none⟩) := by simp [ldP, AHeap.rd1, p12.blk, decP]
  refine bnd rfl (bnd q3 (bnd (ldA_at b12 rfl) (bnd rfl (bnd r17 ?_))))
  refine bnd (stL_at b18 rfl rfl rfl (by decide)) ?_
  refine jn ?_
  refine bnd rfl (bnd (ldI_at p19.blk rfl) ?_)
  unfold stripe_Plan_pieces_l0
  rw [e0]
  exact rf
 ·have a1 : Chg (fun x => x = f2 ∨ x = fb) h h12 := K12.keeps
  have a2 : Chg (fun x => x = f2 ∨ x = fb) h h17 := a1.trans (c17.wk fun x _ e => .inr e)
  have a3 : Chg (fun x => x = f2 ∨ x = fb) h h19 := Chg.beh a2 c19 (fun x hx e => by
   have : x = h11.next := e
   have := (k1.trans (k2.trans k4)).nx
   omega)
  exact a3.trans (cf.wk fun x _ e => .inl e)
end Gq
namespace Gq
open Go Gx Go.Proofs
theorem addL_get {a b : List UInt8} {i : Nat} : (addL a b)[i]? = (a[i]?).bind fun x => (b[i]?).map fun y => x ^^^ y := by
 simp only [addL, List.getElem?_zipWith]
 cases a[i]? <;> cases b[i]? <;> rfl
theorem add_zero (n : Nat) : addL (List.replicate n 0) (List.replicate n 0) = List.replicate n (0 : UInt8) := by
 simp [addL]
theorem head_sz {n : Nat} {ls : List ByteArray} (h : sames n ls = true) (h0 : ls ≠ []) : (ls.headD ⟨#[]⟩).size = n := by
 cases ls with
 | nil => exact absurd rfl h0
 | cons a t => simp only [sames, List.all_cons, Bool.and_eq_true, beq_iff_eq] at h; exact h.1
theorem mixA_ok {n : Nat} {ls : List ByteArray} {cs : List Int} (h : sames n ls = true) (hl : ls.length = cs.length) (hin : cs.all inR = true) : ∃ m, mixA ls cs = (⟨⟨mixL ls cs (List.replicate m 0)⟩⟩, 0) ∧ (ls ≠ [] → m = n) ∧ (ls = [] → m = 0) := by
 refine ⟨(ls.headD ⟨#[]⟩).size, ?_, head_sz h, fun e => by rw [e]; rfl⟩
 unfold mixA
 have : sames (ls.headD ⟨#[]⟩).size ls = true := by
  by_cases e : ls = []
  ·subst e; rfl
  ·rw [head_sz h e]; exact h
 rw [if_pos hl, if_pos this, if_pos hin]
end Gq
namespace Gq
open Go Gx Go.Proofs Fe
def bv (l : List UInt8) (t : Nat) : Fe := of ((l[t]?.getD 0).toNat)
theorem bv_lt (c : UInt8) : c.toNat < 256 := UInt8.toNat_lt c
theorem bv_add {a b : List UInt8} {t : Nat} (ha : t < a.length) (hb : t < b.length) : bv (addL a b) t = bv a t + bv b t := by
 unfold bv
 rw [addL_get]
 obtain ⟨x, hx⟩ := isome ha
 obtain ⟨y, hy⟩ := isome hb
 simp only [hx, hy, Option.bind_some, Option.map_some, Option.getD_some]
 rw [UInt8.toNat_xor, of_xor (bv_lt x) (bv_lt y)]
theorem bv_scale {c : Nat} (hc : c < 256) {l : List UInt8} {t : Nat} (ht : t < l.length) : bv (scaleL c l) t = of c * bv l t := by
 unfold bv scaleL
 obtain ⟨x, hx⟩ := isome ht
 simp only [List.getElem?_map, hx, Option.map_some, Option.getD_some]
 have hm : mulT x.toNat c < 256 := mulT_lt _ _
 rw [toNat_ofNat, Nat.mod_eq_of_lt hm, of_mul (bv_lt x) hc, Fe.mul_comm]
theorem bv_zero (n t : Nat) : bv (List.replicate n 0) t = 0 := by
 unfold bv
 by_cases h : t < n
 ·simp [h]; rfl
 ·simp [h]; rfl
theorem sm_shift : ∀ (n : Nat) (f : Nat → Fe), sm (n + 1) f = f 0 + sm n fun i => f (i + 1)
 | 0, f => by show (0 : Fe) + f 0 = f 0 + 0; rw [Fe.zero_add, Fe.add_zero]
 | n + 1, f => by
  rw [sm_s, sm_shift n f, sm_s]
  show f 0 + sm n (fun i => f (i + 1)) + f (n + 1) = f 0 + (sm n (fun i => f (i + 1)) + f (n + 1))
  ac_rfl
theorem mixL_bv {n t : Nat} (ht : t < n) : ∀ (ls : List ByteArray) (cs : List Int) (o : List UInt8), ls.length = cs.length → (∀ s ∈ ls, s.size = n) → (∀ c ∈ cs, 0 ≤ c ∧ c < 256) → o.length = n →
  bv (mixL ls cs o) t = bv o t + sm ls.length fun j => of ((cs[j]?.getD 0).toNat) * bv (bl (ls[j]?.getD ⟨#[]⟩)) t
 | [], cs, o, _, _, _, _ => by show bv o t = bv o t + 0; rw [Fe.add_zero]
 | s :: ls, [], o, h, _, _, _ => by simp at h
 | s :: ls, c :: cs, o, h, hs, hc, ho => by
  have hss : (bl s).length = n := by rw [bl_length]; exact hs s (List.mem_cons_self ..)
  have hcc := hc c (List.mem_cons_self ..)
  have hsc : (scaleL c.toNat (bl s)).length = n := by rw [scaleL_length]; exact hs s (List.mem_cons_self ..)
  have hol : (addL o (scaleL c.toNat (bl s))).length = n := by simp [addL, ho, hsc]
  have ih := mixL_bv ht ls cs (addL o (scaleL c.toNat (bl s))) (by simpa using h) (fun x hx => hs x (List.mem_cons_of_mem _ hx)) (fun x hx => hc x (List.mem_cons_of_mem _ hx)) hol
  show bv (mixL ls cs (addL o (scaleL c.toNat (bl s)))) t = _
  rw [ih, bv_add (by omega) (by omega), bv_scale (by omega) (by omega), List.length_cons, sm_shift]
  simp only [List.getElem?_cons_zero, List.getElem?_cons_succ, Option.getD_some]
  ac_rfl
theorem sames_of {n : Nat} {ls : List ByteArray} (h : ∀ s ∈ ls, s.size = n) : sames n ls = true := List.all_eq_true.2 fun s hs => by simpa using h s hs
theorem inR_of {cs : List Int} (h : ∀ c ∈ cs, 0 ≤ c ∧ c < 256) : cs.all inR = true := List.all_eq_true.2 fun c hc => by
 have := h c hc
 unfold inR
 rw [decide_eq_false (by omega), decide_eq_false (by omega)]; rfl
theorem mix_bv {n : Nat} {ls : List ByteArray} {cs : List Int} (hne : ls ≠ []) (hl : ls.length = cs.length) (hs : ∀ s ∈ ls, s.size = n) (hc : ∀ c ∈ cs, 0 ≤ c ∧ c < 256) :
  (mixA ls cs).2 = 0 ∧ (mixA ls cs).1.size = n ∧ ∀ t, t < n → bv (bl (mixA ls cs).1) t = sm ls.length fun j => of ((cs[j]?.getD 0).toNat) * bv (bl (ls[j]?.getD ⟨#[]⟩)) t := by
 obtain ⟨m, h1, h2⟩ := mixA_ok (sames_of hs) hl (inR_of hc)
 have hm := h2.1 hne
 subst hm
 rw [h1]
 refine ⟨rfl, ?_, fun t ht => ?_⟩
 ·rw [size_mk]; exact mixL_length (sames_of hs) (by simp)
 ·rw [bl_mk, mixL_bv ht ls cs _ hl hs hc (by simp), bv_zero, Fe.zero_add]
theorem row_range {k : Nat} {f : Nat → Nat} (hf : ∀ j, j < k → f j < 256) : ∀ c ∈ (List.range k).map (fun j => ((f j : Nat) : Int)), 0 ≤ c ∧ c < 256 := fun c hc => by
 obtain ⟨j, hj, rfl⟩ := List.mem_map.1 hc
 have := hf j (List.mem_range.1 hj); omega
structure OfS (k m : Nat) (s : ByteArray) (ps : List Prt) : Prop where
 good : GoodK k m (nE k s.size) ps
 data : ∀ x ∈ ps, x.2 = shardB k s x.1.toNat
theorem join_nil : ∀ xs : List (List UInt8), Lib.join xs [] = xs.flatten
 | [] => rfl
 | [x] => by simp [Lib.join, List.intercalate]
 | x :: y :: xs => by
  have := join_nil (y :: xs)
  simp only [Lib.join, List.intercalate] at this ⊢
  rw [show List.intersperse ([] : List UInt8) (x :: y :: xs) = x :: [] :: List.intersperse [] (y :: xs) from rfl, List.flatten_cons, List.flatten_cons, this]
  simp
end Gq
namespace Gq
open Go Gx Go.Proofs
theorem unl_good {k m n : Nat} : ∀ (ps out : List Prt), (unl k m (n : Int) ps out).2 = 0 → (idxs out).Nodup → (∀ x ∈ out, (0 ≤ x.1 ∧ x.1 < ((k + m : Nat) : Int)) ∧ x.2.size = n) → out.length ≤ k →
  (idxs (unl k m (n : Int) ps out).1).Nodup ∧ (∀ x ∈ (unl k m (n : Int) ps out).1, (0 ≤ x.1 ∧ x.1 < ((k + m : Nat) : Int)) ∧ x.2.size = n) ∧ (unl k m (n : Int) ps out).1.length ≤ k
 | [], out, _, h1, h2, h3 => ⟨h1, h2, h3⟩
 | x :: ps, out, h, h1, h2, h3 => by
  simp only [unl] at h ⊢
  by_cases g : goodP k m (n : Int) x = 0
  ·rw [if_neg (by simpa using g)] at h ⊢
   have hx : (0 ≤ x.1 ∧ x.1 < ((k + m : Nat) : Int)) ∧ x.2.size = n := by
    unfold goodP at g
    by_cases c1 : 0 ≤ x.1 ∧ x.1 < ((k + m : Nat) : Int)
    ·rw [if_neg (by simpa using c1)] at g
     by_cases c2 : (x.2.size : Int) = (n : Int)
     ·exact ⟨c1, by omega⟩
     ·rw [if_pos c2] at g; cases g
    ·rw [if_pos c1] at g; cases g
   by_cases t : x.1 ∉ idxs out ∧ out.length < k
   ·have ht : takeP k out x = out ++ [x] := by unfold takeP; rw [if_pos t]
    rw [ht] at h ⊢
    refine unl_good ps (out ++ [x]) h ?_ ?_ (by simp; omega)
    ·unfold idxs at t h1 ⊢
     rw [List.map_append, List.nodup_append]
     refine ⟨h1, by simp, fun a ha b hb e => ?_⟩
     simp at hb
     subst hb; subst e
     exact t.1 ha
    ·intro y hy
     rcases List.mem_append.1 hy with hy | hy
     ·exact h2 y hy
     ·simp at hy; subst hy; exact hx
   ·have ht : takeP k out x = out := by unfold takeP; rw [if_neg t]
    rw [ht] at h ⊢
    exact unl_good ps out h h1 h2 h3
  ·rw [if_pos (by simpa using g)] at h
   exact absurd h g
theorem unlA_good {k m : Nat} (hk : 0 < k) {ps : List Prt} {long : Int} (h : (unlA k m ps long).2 = 0) (hl : ¬ (unlA k m ps long).1.length < k) : (0 ≤ long ∧ long ≤ 65536) ∧ GoodK k m (nE k long.toNat) (unlA k m ps long).1 := by
 unfold unlA at h hl ⊢
 by_cases c : (eachA k long).2 = 0
 ·rw [if_neg (by simpa using c)] at h hl ⊢
  have hr : 0 ≤ long ∧ long ≤ 65536 := by
   unfold eachA at c
   split at c
   ·cases c
   ·omega
  obtain ⟨L, rfl⟩ : ∃ L : Nat, long = L := ⟨long.toNat, by omega⟩
  have e := eachA_nat hk (L := L) (by omega)
  rw [e] at h hl ⊢
  obtain ⟨q1, q2, q3⟩ := unl_good ps [] h (by simp [idxs]) (fun x hx => by cases hx) (by simp)
  refine ⟨hr, ⟨by simp only at hl q3 ⊢; omega, q1, fun x hx => (q2 x hx).1, fun x hx => ?_⟩⟩
  rw [Int.toNat_natCast]; exact (q2 x hx).2
 ·rw [if_pos (by simpa using c)] at h
  exact absurd h c
theorem pieceA_size {k m n : Nat} (hk : 0 < k) (hR : k + m ≤ 255) {ps : List Prt} (g : GoodK k m n ps) {i : Nat} (hi : i < k) : (pieceA k ps i).size = n := by
 obtain ⟨_, hE, _, _⟩ := g.full hk hR
 have hEI : El (k * k) (invR k ps) := invU_El hk hE
 have dl' : (datas ps).length = k := by simp [datas, g.len]
 have hrow : ∀ c ∈ rowI k ps i, 0 ≤ c ∧ c < 256 := row_range fun j hj => hEI _ (pos_lt hi hj)
 exact (mix_bv (n := n) (ls := datas ps) (cs := rowI k ps i) (fun e => by rw [e] at dl'; simp at dl'; omega) (by rw [dl']; simp [rowI]) (fun x hx => by
  obtain ⟨y, hy, rfl⟩ := List.mem_map.1 hx
  exact g.sz y hy) hrow).2.1
theorem flat_size {n : Nat} : ∀ (xs : List ByteArray), (∀ x ∈ xs, x.size = n) → ((xs.map fun x => bl x).flatten).length = xs.length * n
 | [], _ => by simp
 | x :: xs, h => by
  rw [List.map_cons, List.flatten_cons, List.length_append, flat_size xs fun y hy => h y (List.mem_cons_of_mem _ hy), bl_length, h x (List.mem_cons_self ..), List.length_cons, Nat.add_mul, Nat.one_mul, Nat.add_comm]
def flatB (xs : List ByteArray) : List UInt8 := (xs.map fun x => bl x).flatten
theorem join_flat (xs : List ByteArray) : joinB xs ⟨#[]⟩ = ⟨⟨flatB xs⟩⟩ := by
 unfold joinB
 have e : (⟨#[]⟩ : ByteArray).data.toList = [] := rfl
 rw [e, join_nil]; rfl
def cutA (k : Nat) (ps : List Prt) (long : Int) : ByteArray := ⟨⟨(flatB (piecesA k ps)).take long.toNat⟩⟩
theorem joined {k m : Nat} (hk : 0 < k) (hR : k + m ≤ 255) {ps : List Prt} {long : Int} (hl : 0 ≤ long ∧ long ≤ 65536) (g : GoodK k m (nE k long.toNat) ps) {h : AHeap} {base : Nat} {o : Slc} (A : Acc encS 9 base h o (piecesA k ps)) :
  joinA o (⟨#[]⟩ : ByteArray) h = some ⟨⟨flatB (piecesA k ps)⟩⟩ ∧ Gx.subS (⟨⟨flatB (piecesA k ps)⟩⟩ : ByteArray) none (some long) = some (cutA k ps long) ∧ (cutA k ps long).size = long.toNat := by
 have pl : (piecesA k ps).length = k := by simp [piecesA]
 have fl : (flatB (piecesA k ps)).length = k * nE k long.toNat := by
  have := flat_size (n := nE k long.toNat) (piecesA k ps) (fun x hx => by
   obtain ⟨i, hi, rfl⟩ := List.mem_map.1 hx
   exact pieceA_size hk hR g (List.mem_range.1 hi))
  rw [pl] at this; exact this
 have hge := nE_ge hk long.toNat
 have hle := nE_le hk long.toNat
 have hsz : (⟨⟨flatB (piecesA k ps)⟩⟩ : ByteArray).size = k * nE k long.toNat := by rw [size_mk, fl]
 refine ⟨?_, ?_, ?_⟩
 ·rcases A.st with ⟨_, h2⟩ | ⟨b, G⟩
  ·rw [h2] at pl; simp at pl; omega
  ·rw [G.s]
   have hr := rdL_all G.blk
   rw [List.length_map, pl] at hr
   unfold joinA
   simp only [pl]
   have e1 : unstrs ((piecesA k ps).map encS) = some (piecesA k ps) := unstrs_map _
   rw [hr]
   simp only [Option.bind_some, e1]
   rw [join_flat, if_pos ⟨by omega, by omega, by omega, by rw [hsz]; omega⟩]
 ·have := subS_of (s := (⟨⟨flatB (piecesA k ps)⟩⟩ : ByteArray)) (lo := none) (hi := some long) (i := 0) (j := long.toNat) (by simp; omega) rfl (by omega) (by rw [hsz]; exact hge)
  rw [this, List.drop_zero]; rfl
 ·unfold cutA
  rw [size_mk, List.length_take, fl, Nat.min_eq_left hge]
def joinP (k m : Nat) (ps : List Prt) (long : Int) : ByteArray × Int :=
 if (unlA k m ps long).2 ≠ 0 then (⟨#[]⟩, (unlA k m ps long).2) else if (unlA k m ps long).1.length < k then (⟨#[]⟩, 50) else (cutA k (unlA k m ps long).1 long, 0)
theorem sjoin_spec {k0 : Nat} (hk0 : 200000 ≤ k0) {h : AHeap} {pb f2 B sb fb k m : Nat} (p : PL h pb f2 B sb fb k m) (hk : 0 < k) (hR : k + m ≤ 255) {y : Slc} {ps : List Prt} (R : Row2 h y ps) (hps : ps.length ≤ 100000) (long : Int) :
  ∃ h', stripe_Plan_Join k0 (DD k0) (some ⟨pb, 0, none⟩) y long h = some (joinP k m ps long, h') ∧ PL h' pb f2 B sb fb k m ∧ Chg (fun x => x = f2 ∨ x = fb) h h' := by
 simp only [stripe_Plan_Join]
 obtain ⟨h1, o, r1, k1, A1⟩ := unlike_spec (k0 := k0) (DD k0) p hk hR R (by omega) (by omega) long
 have p1 := p.keeps k1
 unfold joinP
 by_cases c : (unlA k m ps long).2 = 0
 ·rw [if_neg (by simpa using c)]
  by_cases c2 : (unlA k m ps long).1.length < k
  ·rw [if_pos c2]
   refine ⟨h1, ?_, p1, k1.keeps⟩
   refine bnd r1 ?_
   refine ifn (by simpa using c) ?_
   refine bnd rfl (bnd (ldI_at p1.blk rfl) ?_)
   exact ifp (by rw [A1.len]; simpa using c2) rfl
  ·rw [if_neg c2]
   obtain ⟨hl, g⟩ := unlA_good hk c c2
   have hle := nE_le hk long.toNat
   have hn2 : nE k long.toNat ≤ k * nE k long.toNat := Nat.le_mul_of_pos_left _ hk
   obtain ⟨h2, o2, r2, p2, c3, A2⟩ := pieces_spec hk0 p1 hk hR A1.row g (by omega)
   obtain ⟨j1, j2, _⟩ := joined hk hR hl g A2
   refine ⟨h2, ?_, p2, k1.keeps.trans c3⟩
   refine bnd r1 ?_
   refine ifn (by simpa using c) ?_
   refine bnd rfl (bnd (ldI_at p1.blk rfl) ?_)
   refine ifn (by rw [A1.len]; simp; omega) ?_
   exact bnd r2 (bnd j1 (bnd j2 rfl))
 ·rw [if_pos (by simpa using c)]
  refine ⟨h1, ?_, p1, k1.keeps⟩
  refine bnd r1 ?_
  exact ifp (by simpa using c) rfl
def shardP (k m : Nat) (ps : List Prt) (long i : Int) : ByteArray × Int :=
 if (unlA k m ps long).2 ≠ 0 then (⟨#[]⟩, (unlA k m ps long).2) else if ¬ (0 ≤ i ∧ i < ((k + m : Nat) : Int)) then (⟨#[]⟩, 1) else if (unlA k m ps long).1.length < k then (⟨#[]⟩, 50) else (shardB k (cutA k (unlA k m ps long).1 long) i.toNat, 0)
theorem sshard_spec {k0 : Nat} (hk0 : 200000 ≤ k0) {h : AHeap} {pb f2 B sb fb k m : Nat} (p : PL h pb f2 B sb fb k m) (hk : 0 < k) (hR : k + m ≤ 255) {y : Slc} {ps : List Prt} (R : Row2 h y ps) (hps : ps.length ≤ 100000) (long i : Int) :
  ∃ h', stripe_Plan_Shard k0 (DD k0) (some ⟨pb, 0, none⟩) y long i h = some (shardP k m ps long i, h') ∧ PL h' pb f2 B sb fb k m ∧ Chg (fun x => x = f2 ∨ x = fb) h h' := by
 simp only [stripe_Plan_Shard]
 obtain ⟨h1, o, r1, k1, A1⟩ := unlike_spec (k0 := k0) (DD k0) p hk hR R (by omega) (by omega) long
 have p1 := p.keeps k1
 have hkn := known_spec k0 (DD k0) p1 hR i
 unfold shardP
 by_cases c : (unlA k m ps long).2 = 0
 ·rw [if_neg (by simpa using c)]
  by_cases ci : 0 ≤ i ∧ i < ((k + m : Nat) : Int)
  ·rw [if_neg (by simpa using ci)]
   by_cases c2 : (unlA k m ps long).1.length < k
   ·rw [if_pos c2]
    refine ⟨h1, ?_, p1, k1.keeps⟩
    refine bnd r1 ?_
    refine ifn (by simpa using c) ?_
    refine bnd hkn ?_
    refine ifn (by simpa using ci) ?_
    refine bnd rfl (bnd (ldI_at p1.blk rfl) ?_)
    exact ifp (by rw [A1.len]; simpa using c2) rfl
   ·rw [if_neg c2]
    obtain ⟨hl, g⟩ := unlA_good hk c c2
    have hle := nE_le hk long.toNat
    have hn2 : nE k long.toNat ≤ k * nE k long.toNat := Nat.le_mul_of_pos_left _ hk
    obtain ⟨h2, o2, r2, p2, c3, A2⟩ := pieces_spec hk0 p1 hk hR A1.row g (by omega)
    obtain ⟨j1, j2, j3⟩ := joined hk hR hl g A2
    obtain ⟨h3, ob, r3, b3, q1, q2, p3, c4⟩ := split_spec (k0 := k0) (by omega) p2 hk hR (cutA k (unlA k m ps long).1 long) (by rw [j3]; omega)
    have Rs := shards_row b3 q2
    obtain ⟨j, hj⟩ : ∃ j : Nat, i = j := ⟨i.toNat, by omega⟩
    subst hj
    obtain ⟨q, i1, i2⟩ := Rs.ldS (shards_get (i := j) _ (by omega))
    refine ⟨h3, ?_, p3, k1.keeps.trans (c3.trans (c4.wk fun x _ e => .inl e))⟩
    refine bnd r1 ?_
    refine ifn (by simpa using c) ?_
    refine bnd hkn ?_
    refine ifn (by simpa using ci) ?_
    refine bnd rfl (bnd (ldI_at p1.blk rfl) ?_)
    refine ifn (by rw [A1.len]; simp; omega) ?_
    refine bnd r2 (bnd j1 (bnd j2 (bnd r3 ?_)))
    refine ifn (by simp) ?_
    refine bnd i1 (bnd i2 ?_)
    rw [Int.toNat_natCast]
  ·rw [if_pos ci]
   refine ⟨h1, ?_, p1, k1.keeps⟩
   refine bnd r1 ?_
   refine ifn (by simpa using c) ?_
   refine bnd hkn ?_
   exact ifp (by rw [decide_eq_false ci]; rfl) rfl
 ·rw [if_pos (by simpa using c)]
  refine ⟨h1, ?_, p1, k1.keeps⟩
  refine bnd r1 ?_
  exact ifp (by simpa using c) rfl
end Gq
