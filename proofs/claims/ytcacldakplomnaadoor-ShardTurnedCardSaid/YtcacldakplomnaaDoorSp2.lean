import Derived.Test.YtcacldakplomnaaDoorSp1
namespace Gd
open Go Gx Go.Proofs
structure Fe where
  v : Nat
  lt : v < 256
namespace Fe
theorem ext {a b : Fe} (h : a.v = b.v) : a = b := by cases a; cases b; cases h; rfl
def add (a b : Fe) : Fe := ⟨a.v ^^^ b.v, xor_lt a.lt b.lt⟩
def mul (a b : Fe) : Fe := ⟨mulT a.v b.v, mulT_lt _ _⟩
def inv (a : Fe) : Fe := ⟨divT 1 a.v, divT_lt⟩
instance : Add Fe := ⟨add⟩
instance : Mul Fe := ⟨mul⟩
instance : OfNat Fe 0 := ⟨⟨0, by omega⟩⟩
instance : OfNat Fe 1 := ⟨⟨1, by omega⟩⟩
theorem add_v (a b : Fe) : (a + b).v = a.v ^^^ b.v := rfl
theorem mul_v (a b : Fe) : (a * b).v = mulT a.v b.v := rfl
theorem add_comm (a b : Fe) : a + b = b + a := ext (Nat.xor_comm _ _)
theorem add_assoc (a b c : Fe) : a + b + c = a + (b + c) := ext (Nat.xor_assoc _ _ _)
theorem add_self (a : Fe) : a + a = 0 := ext (Nat.xor_self _)
theorem add_zero (a : Fe) : a + 0 = a := ext (Nat.xor_zero _)
theorem zero_add (a : Fe) : 0 + a = a := ext (Nat.zero_xor _)
theorem mul_comm (a b : Fe) : a * b = b * a := ext (mulT_comm _ _)
theorem mul_assoc (a b c : Fe) : a * b * c = a * (b * c) := ext mulT_assoc
theorem mul_add (a b c : Fe) : a * (b + c) = a * b + a * c := ext (mulT_xor b.lt c.lt)
theorem add_mul (a b c : Fe) : (a + b) * c = a * c + b * c := by rw [mul_comm, mul_add, mul_comm c, mul_comm c]
theorem zero_mul (a : Fe) : 0 * a = 0 := ext (mulT_zero a.v)
theorem mul_zero (a : Fe) : a * 0 = 0 := by rw [mul_comm, zero_mul]
theorem mul_one (a : Fe) : a * 1 = a := ext (mulT_one a.lt)
theorem one_mul (a : Fe) : 1 * a = a := by rw [mul_comm, mul_one]
theorem ne_v {a : Fe} (h : a ≠ 0) : a.v ≠ 0 := fun e => h (ext e)
theorem inv_mul {a : Fe} (h : a ≠ 0) : inv a * a = 1 := ext (mul_div (x := 1) (by omega) a.lt (ne_v h))
theorem one_ne : (1 : Fe) ≠ 0 := fun e => absurd (congrArg Fe.v e) (by decide)
instance : Std.Associative (α := Fe) (· + ·) := ⟨add_assoc⟩
instance : Std.Commutative (α := Fe) (· + ·) := ⟨add_comm⟩
instance : Std.Associative (α := Fe) (· * ·) := ⟨mul_assoc⟩
instance : Std.Commutative (α := Fe) (· * ·) := ⟨mul_comm⟩
def of (n : Nat) : Fe := ⟨n % 256, Nat.mod_lt _ (by omega)⟩
theorem of_v {n : Nat} (h : n < 256) : (of n).v = n := Nat.mod_eq_of_lt h
theorem of_xor {a b : Nat} (ha : a < 256) (hb : b < 256) : of (a ^^^ b) = of a + of b := ext (by rw [add_v, of_v ha, of_v hb, of_v (xor_lt ha hb)])
theorem of_mul {a b : Nat} (ha : a < 256) (hb : b < 256) : of (mulT a b) = of a * of b := ext (by rw [mul_v, of_v ha, of_v hb, of_v (mulT_lt _ _)])
theorem of_zero : of 0 = 0 := rfl
theorem of_one : of 1 = 1 := rfl
theorem of_inj {a b : Nat} (ha : a < 256) (hb : b < 256) (h : of a = of b) : a = b := by
  have := congrArg Fe.v h
  rwa [of_v ha, of_v hb] at this
end Fe
open Fe
def sm : Nat → (Nat → Fe) → Fe
  | 0, _ => 0
  | n + 1, f => sm n f + f n
theorem sm_s (n : Nat) (f : Nat → Fe) : sm (n + 1) f = sm n f + f n := rfl
theorem sm_congr : ∀ {n : Nat} {f g : Nat → Fe}, (∀ i, i < n → f i = g i) → sm n f = sm n g
  | 0, _, _, _ => rfl
  | n + 1, f, g, h => by
    unfold sm
    rw [sm_congr fun i hi => h i (by omega), h n (by omega)]
theorem sm_zero : ∀ {n : Nat} {f : Nat → Fe}, (∀ i, i < n → f i = 0) → sm n f = 0
  | 0, _, _ => rfl
  | n + 1, f, h => by
    unfold sm
    rw [sm_zero fun i hi => h i (by omega), h n (by omega), add_zero]
theorem sm_add : ∀ (n : Nat) (f g : Nat → Fe), sm n (fun i => f i + g i) = sm n f + sm n g
  | 0, _, _ => (add_zero 0).symm
  | n + 1, f, g => by
    rw [sm_s, sm_s, sm_s, sm_add n f g]
    show sm n f + sm n g + (f n + g n) = sm n f + f n + (sm n g + g n)
    ac_rfl
theorem sm_mul : ∀ (n : Nat) (c : Fe) (f : Nat → Fe), sm n (fun i => c * f i) = c * sm n f
  | 0, c, _ => (mul_zero c).symm
  | n + 1, c, f => by
    unfold sm
    rw [sm_mul n c f, mul_add]
theorem sm_mul' (n : Nat) (c : Fe) (f : Nat → Fe) : sm n (fun i => f i * c) = sm n f * c := by
  rw [mul_comm _ c, ← sm_mul]
  exact sm_congr fun i _ => mul_comm _ _
theorem sm_swap : ∀ (n m : Nat) (f : Nat → Nat → Fe), sm n (fun i => sm m fun j => f i j) = sm m (fun j => sm n fun i => f i j)
  | 0, m, f => (sm_zero fun _ _ => rfl).symm
  | n + 1, m, f => by
    show sm n (fun i => sm m fun j => f i j) + sm m (fun j => f n j) = sm m (fun j => sm n (fun i => f i j) + f n j)
    rw [sm_swap n m f, sm_add]
def dl (i j : Nat) : Fe := if i = j then 1 else 0
theorem sm_dl : ∀ {n i : Nat} (f : Nat → Fe), i < n → sm n (fun k => dl i k * f k) = f i
  | n + 1, i, f, h => by
    rw [sm_s]
    by_cases e : i = n
    · subst e
      rw [sm_zero fun k hk => by unfold dl; rw [if_neg (by omega), zero_mul], zero_add]
      show dl i i * f i = f i
      unfold dl; rw [if_pos rfl, one_mul]
    · rw [sm_dl f (by omega)]
      show f i + dl i n * f n = f i
      unfold dl; rw [if_neg e, zero_mul, add_zero]
theorem sm_dl' {n i : Nat} (f : Nat → Fe) (h : i < n) : sm n (fun k => f k * dl k i) = f i := by
  rw [← sm_dl f h]
  exact sm_congr fun k _ => by
    rw [mul_comm]
    unfold dl
    by_cases e : k = i
    · rw [if_pos e, if_pos e.symm]
    · rw [if_neg e, if_neg fun h => e h.symm]
abbrev Mt := Nat → Nat → Fe
def mm (n : Nat) (A B : Mt) : Mt := fun i j => sm n fun k => A i k * B k j
def Eqm (r c : Nat) (A B : Mt) : Prop := ∀ i j, i < r → j < c → A i j = B i j
theorem Eqm.refl (r c : Nat) (A : Mt) : Eqm r c A A := fun _ _ _ _ => rfl
theorem Eqm.symm {r c : Nat} {A B : Mt} (h : Eqm r c A B) : Eqm r c B A := fun i j hi hj => (h i j hi hj).symm
theorem Eqm.trans {r c : Nat} {A B D : Mt} (h : Eqm r c A B) (k : Eqm r c B D) : Eqm r c A D := fun i j hi hj => (h i j hi hj).trans (k i j hi hj)
theorem mm_assoc (n m : Nat) (A B D : Mt) : mm m (mm n A B) D = mm n A (mm m B D) := by
  funext i j
  show sm m (fun k => sm n (fun l => A i l * B l k) * D k j) = sm n fun l => A i l * sm m fun k => B l k * D k j
  rw [sm_congr (g := fun k => sm n fun l => A i l * (B l k * D k j)) fun k _ => by rw [← sm_mul']; exact sm_congr fun l _ => mul_assoc _ _ _, sm_swap]
  exact sm_congr fun l _ => sm_mul _ _ _
theorem mm_congr {r n c : Nat} {A A' B B' : Mt} (h : Eqm r n A A') (k : Eqm n c B B') : Eqm r c (mm n A B) (mm n A' B') := fun i j hi hj => sm_congr fun l hl => by rw [h i l hi hl, k l j hl hj]
theorem mm_dl {r n c : Nat} (h : r ≤ n) (A : Mt) : Eqm r c (mm n dl A) A := fun i j hi _ => sm_dl (fun k => A k j) (by omega)
theorem dl_mm {r n c : Nat} (h : c ≤ n) (A : Mt) : Eqm r c (mm n A dl) A := fun i j _ hj => sm_dl' (fun k => A i k) (by omega)
def tr (A : Mt) : Mt := fun i j => A j i
theorem tr_mm (n : Nat) (A B : Mt) : tr (mm n A B) = mm n (tr B) (tr A) := by
  funext i j
  exact sm_congr fun k _ => mul_comm _ _
structure Inv (n : Nat) (T T' : Mt) : Prop where
  l : Eqm n n (mm n T T') dl
  r : Eqm n n (mm n T' T) dl
theorem Inv.mul {n : Nat} {S S' T T' : Mt} (a : Inv n S S') (b : Inv n T T') : Inv n (mm n S T) (mm n T' S') := by
  constructor
  · have : mm n (mm n S T) (mm n T' S') = mm n S (mm n (mm n T T') S') := by rw [mm_assoc, mm_assoc]
    rw [this]
    exact (mm_congr (Eqm.refl n n S) ((mm_congr b.l (Eqm.refl n n S')).trans (mm_dl (Nat.le_refl n) S'))).trans a.l
  · have : mm n (mm n T' S') (mm n S T) = mm n T' (mm n (mm n S' S) T) := by rw [mm_assoc, mm_assoc]
    rw [this]
    exact (mm_congr (Eqm.refl n n T') ((mm_congr a.r (Eqm.refl n n T)).trans (mm_dl (Nat.le_refl n) T))).trans b.r
theorem Inv.one (n : Nat) : Inv n dl dl := ⟨mm_dl (Nat.le_refl n) dl, mm_dl (Nat.le_refl n) dl⟩
def swT (l r : Nat) : Mt := fun i k => dl (if i = l then r else if i = r then l else i) k
theorem sw_mm {n l r : Nat} (hl : l < n) (hr : r < n) (A : Mt) (i j : Nat) (hi : i < n) : mm n (swT l r) A i j = A (if i = l then r else if i = r then l else i) j := by
  refine sm_dl (fun k => A k j) ?_
  split
  · exact hr
  · split
    · exact hl
    · exact hi
theorem sw_inv {n l r : Nat} (hl : l < n) (hr : r < n) : Inv n (swT l r) (swT l r) := by
  have : Eqm n n (mm n (swT l r) (swT l r)) dl := fun i j hi _ => by
    rw [sw_mm hl hr _ i j hi]
    unfold swT
    by_cases e : i = l
    · subst e
      rw [if_pos rfl]
      by_cases e2 : r = i
      · subst e2; rw [if_pos rfl]
      · rw [if_neg e2, if_pos rfl]
    · rw [if_neg e]
      by_cases e2 : i = r
      · subst e2; rw [if_pos rfl, if_pos rfl]
      · rw [if_neg e2, if_neg e, if_neg e2]
  exact ⟨this, this⟩
def scT (r : Nat) (c : Fe) : Mt := fun i k => (if i = r then c else 1) * dl i k
theorem sc_mm {n r : Nat} {c : Fe} (A : Mt) (i j : Nat) (hi : i < n) : mm n (scT r c) A i j = (if i = r then c else 1) * A i j := by
  unfold mm scT
  rw [sm_congr (g := fun k => (if i = r then c else 1) * (dl i k * A k j)) fun k _ => mul_assoc _ _ _, sm_mul, sm_dl (fun k => A k j) hi]
theorem sc_inv {n r : Nat} {c c' : Fe} (h : c * c' = 1) : Inv n (scT r c) (scT r c') := by
  have go : ∀ {c c' : Fe}, c * c' = 1 → Eqm n n (mm n (scT r c) (scT r c')) dl := fun {c c'} h i j hi _ => by
    rw [sc_mm _ i j hi]
    unfold scT
    rw [← mul_assoc]
    by_cases e : i = r
    · rw [if_pos e, if_pos e, h, one_mul]
    · rw [if_neg e, if_neg e, one_mul, one_mul]
  exact ⟨go h, go (by rw [mul_comm]; exact h)⟩
def elT (r : Nat) (m : Nat → Fe) : Mt := fun i k => dl i k + (if i = r then 0 else m i) * dl r k
theorem el_mm {n r : Nat} (hr : r < n) {m : Nat → Fe} (A : Mt) (i j : Nat) (hi : i < n) : mm n (elT r m) A i j = A i j + (if i = r then 0 else m i) * A r j := by
  unfold mm elT
  rw [sm_congr (g := fun k => dl i k * A k j + (if i = r then 0 else m i) * (dl r k * A k j)) fun k _ => by rw [add_mul, mul_assoc], sm_add, sm_mul, sm_dl (fun k => A k j) hi, sm_dl (fun k => A k j) hr]
theorem el_inv {n r : Nat} (hr : r < n) (m : Nat → Fe) : Inv n (elT r m) (elT r m) := by
  have : Eqm n n (mm n (elT r m) (elT r m)) dl := fun i j hi _ => by
    rw [el_mm hr _ i j hi]
    unfold elT
    by_cases e : i = r
    · subst e; simp only [if_true, zero_mul, add_zero]
    · simp only [if_neg e, if_true, zero_mul, add_zero]
      rw [add_assoc, add_self, add_zero]
  exact ⟨this, this⟩
end Gd
namespace Gd
open Go Gx Go.Proofs Fe
def El (N : Nat) (g : Nat → Nat) : Prop := ∀ t, t < N → g t < 256
def Vw (C : Nat) (g : Nat → Nat) : Mt := fun i j => of (g (i * C + j))
def sg (l r i : Nat) : Nat := if i = l then r else if i = r then l else i
theorem pos_lt {R C i j : Nat} (hi : i < R) (hj : j < C) : i * C + j < R * C := by have := le_row (c := C) hi; omega
theorem sg_lt {R l r i : Nat} (hl : l < R) (hr : r < R) (hi : i < R) : sg l r i < R := by
  unfold sg
  split
  · exact hr
  · split
    · exact hl
    · exact hi
section
variable {R C C2 l r jj : Nat} {g u : Nat → Nat}
theorem Vw_swap {i j : Nat} (hj : j < C) : Vw C (swapR C l r g) i j = Vw C g (sg l r i) j := by
  unfold Vw swapR sg
  rw [pos_div hj, pos_mod hj]
  by_cases e : i = l
  · rw [if_pos e, if_pos e]
  · rw [if_neg e, if_neg e]
    by_cases e2 : i = r
    · rw [if_pos e2, if_pos e2]
    · rw [if_neg e2, if_neg e2]
theorem swap_El (hl : l < R) (hr : r < R) (hC : 0 < C) (h : El (R * C) g) : El (R * C) (swapR C l r g) := fun t ht => by
  have hm := Nat.mod_lt t hC
  unfold swapR
  split
  · exact h _ (pos_lt hr hm)
  · split
    · exact h _ (pos_lt hl hm)
    · exact h t ht
theorem Vw_div {b i j : Nat} (hb : b < 256) (b0 : b ≠ 0) (h : El (R * C) g) (hi : i < R) (hj : j < C) : Vw C (divR C r b g) i j = (if i = r then Fe.inv (of b) else 1) * Vw C g i j := by
  have hx := h _ (pos_lt hi hj)
  unfold Vw divR
  rw [pos_div hj]
  by_cases e : i = r
  · rw [if_pos e, if_pos e, ← div_scl hx hb b0, of_mul hx divT_lt, mul_comm]
    congr 1
    exact Fe.ext (by rw [of_v divT_lt]; show divT 1 b = divT 1 (of b).v; rw [of_v hb])
  · rw [if_neg e, if_neg e, one_mul]
theorem Vw_elim {i j : Nat} (h : El (R * C) g) (hr : r < R) (hjj : jj < C) (hi : i < R) (hj : j < C) : Vw C (elimG C r jj g) i j = Vw C g i j + (if i = r then 0 else Vw C g i jj) * Vw C g r j := by
  unfold Vw elimG
  rw [pos_div hj, pos_mod hj]
  by_cases e : i = r
  · rw [if_pos e, if_pos e, zero_mul, add_zero]
  · rw [if_neg e, if_neg e, of_xor (h _ (pos_lt hi hj)) (mulT_lt _ _), of_mul (h _ (pos_lt hr hj)) (h _ (pos_lt hi hjj)), mul_comm (of (g (r * C + j)))]
theorem Vw_elimU {i j : Nat} (h : El (R * C) g) (hu : El (R * C2) u) (hr : r < R) (hjj : jj < C) (hi : i < R) (hj : j < C2) : Vw C2 (elimU C C2 r jj g u) i j = Vw C2 u i j + (if i = r then 0 else Vw C g i jj) * Vw C2 u r j := by
  unfold Vw elimU
  rw [pos_div hj, pos_mod hj]
  by_cases e : i = r
  · rw [if_pos e, if_pos e, zero_mul, add_zero]
  · rw [if_neg e, if_neg e, of_xor (hu _ (pos_lt hi hj)) (mulT_lt _ _), of_mul (hu _ (pos_lt hr hj)) (h _ (pos_lt hi hjj)), mul_comm (of (u (r * C2 + j)))]
theorem elim_El (h : El (R * C) g) : El (R * C) (elimG C r jj g) := fun t ht => by
  unfold elimG
  split
  · exact h t ht
  · exact xor_lt (h t ht) (mulT_lt _ _)
theorem elimU_El (h : El (R * C2) u) : El (R * C2) (elimU C C2 r jj g u) := fun t ht => by
  unfold elimU
  split
  · exact h t ht
  · exact xor_lt (h t ht) (mulT_lt _ _)
def stM (l r jj : Nat) (A : Mt) (B : Mt) : Mt :=
  let h : Mt := fun i j => (if i = r then Fe.inv (A (sg l r r) jj) else 1) * B (sg l r i) j
  fun i j => h i j + (if i = r then 0 else (if i = r then Fe.inv (A (sg l r r) jj) else 1) * A (sg l r i) jj) * h r j
theorem Vw_stepG (h : El (R * C) g) (hl : l < R) (hr : r < R) (hjj : jj < C) (hp : g (l * C + jj) ≠ 0) : Eqm R C (Vw C (stepG C jj l r g)) (stM l r jj (Vw C g) (Vw C g)) ∧ El (R * C) (stepG C jj l r g) := by
  have hC : 0 < C := by omega
  have e1 := swap_El hl hr hC h
  obtain ⟨b, hb⟩ : ∃ b, b = swapR C l r g (r * C + jj) := ⟨_, rfl⟩
  have hb1 : b < 256 := by rw [hb]; exact e1 _ (pos_lt hr hjj)
  have ob : of b = Vw C g (sg l r r) jj := by rw [← Vw_swap hjj, hb]; rfl
  have hb0 : b ≠ 0 := fun e => hp (by
    have : Vw C g (sg l r r) jj = Vw C g l jj := by
      unfold sg
      by_cases e : r = l
      · rw [if_pos e, e]
      · rw [if_neg e, if_pos rfl]
    rw [this, e] at ob
    exact of_inj (h _ (pos_lt hl hjj)) (by omega) ob.symm)
  have e2 : El (R * C) (divR C r b (swapR C l r g)) := divR_el e1
  have es : stepG C jj l r g = elimG C r jj (divR C r b (swapR C l r g)) := by rw [hb]; rfl
  refine ⟨fun i j hi hj => ?_, by rw [es]; exact elim_El e2⟩
  rw [es, Vw_elim e2 hr hjj hi hj, Vw_div hb1 hb0 e1 hi hj, Vw_div hb1 hb0 e1 hi hjj, Vw_div hb1 hb0 e1 hr hj, Vw_swap hj, Vw_swap hj, Vw_swap hjj, ob]
  rfl
theorem Vw_stepU (h : El (R * C) g) (hu : El (R * C2) u) (hl : l < R) (hr : r < R) (hjj : jj < C) (hC2 : 0 < C2) (hp : g (l * C + jj) ≠ 0) : Eqm R C2 (Vw C2 (stepU C C2 jj l r g u)) (stM l r jj (Vw C g) (Vw C2 u)) ∧ El (R * C2) (stepU C C2 jj l r g u) := by
  have hC : 0 < C := by omega
  have e1 := swap_El hl hr hC h
  have u1 := swap_El hl hr hC2 hu
  obtain ⟨b, hb⟩ : ∃ b, b = swapR C l r g (r * C + jj) := ⟨_, rfl⟩
  have hb1 : b < 256 := by rw [hb]; exact e1 _ (pos_lt hr hjj)
  have ob : of b = Vw C g (sg l r r) jj := by rw [← Vw_swap hjj, hb]; rfl
  have hb0 : b ≠ 0 := fun e => hp (by
    have : Vw C g (sg l r r) jj = Vw C g l jj := by
      unfold sg
      by_cases e : r = l
      · rw [if_pos e, e]
      · rw [if_neg e, if_pos rfl]
    rw [this, e] at ob
    exact of_inj (h _ (pos_lt hl hjj)) (by omega) ob.symm)
  have e2 : El (R * C) (divR C r b (swapR C l r g)) := divR_el e1
  have u2 : El (R * C2) (divR C2 r b (swapR C2 l r u)) := divR_el u1
  have es : stepU C C2 jj l r g u = elimU C C2 r jj (divR C r b (swapR C l r g)) (divR C2 r b (swapR C2 l r u)) := by rw [hb]; rfl
  refine ⟨fun i j hi hj => ?_, by rw [es]; exact elimU_El u2⟩
  rw [es, Vw_elimU e2 u2 hr hjj hi hj, Vw_div hb1 hb0 u1 hi hj, Vw_div hb1 hb0 e1 hi hjj, Vw_div hb1 hb0 u1 hr hj, Vw_swap hj, Vw_swap hj, Vw_swap hjj, ob]
  rfl
theorem st_inv {A : Mt} (hl : l < R) (hr : r < R) (hp : A (sg l r r) jj ≠ 0) : ∃ T T', Inv R T T' ∧ ∀ (c : Nat) (B : Mt), Eqm R c (stM l r jj A B) (mm R T B) := by
  obtain ⟨k, hk⟩ : ∃ k, k = Fe.inv (A (sg l r r) jj) := ⟨_, rfl⟩
  have hkk : k * A (sg l r r) jj = 1 := by rw [hk]; exact inv_mul hp
  obtain ⟨m, hm⟩ : ∃ m : Nat → Fe, m = fun i => (if i = r then k else 1) * A (sg l r i) jj := ⟨_, rfl⟩
  refine ⟨mm R (elT r m) (mm R (scT r k) (swT l r)), _, (el_inv hr m).mul ((sc_inv hkk).mul (sw_inv hl hr)), fun c B i j hi _ => ?_⟩
  rw [mm_assoc, el_mm hr _ i j hi, mm_assoc, sc_mm _ i j hi, sc_mm _ r j hr, sw_mm hl hr B i j hi, sw_mm hl hr B r j hr, hm, hk]
  rfl
end
structure Ech (R : Nat) (G : Mt) (r j : Nat) (p : Nat → Nat) : Prop where
  rj : r ≤ j
  rR : r ≤ R
  pv : ∀ k, k < r → p k < j ∧ ∀ i, i < R → G i (p k) = dl i k
  zr : ∀ i, r ≤ i → i < R → ∀ c, c < j → G i c = 0
  sq : r = j → ∀ k, k < r → p k = k
theorem Ech.congr {R C r j : Nat} {G G' : Mt} {p : Nat → Nat} (h : Ech R G r j p) (hj : j ≤ C) (e : Eqm R C G' G) : Ech R G' r j p :=
  ⟨h.rj, h.rR, fun k hk => ⟨(h.pv k hk).1, fun i hi => by rw [e i _ hi (by have := (h.pv k hk).1; omega)]; exact (h.pv k hk).2 i hi⟩, fun i h1 h2 c hc => by rw [e i c h2 (by omega)]; exact h.zr i h1 h2 c hc, h.sq⟩
theorem dl_ne {i k : Nat} (h : i ≠ k) : dl i k = 0 := by unfold dl; rw [if_neg h]
theorem dl_eq (i : Nat) : dl i i = 1 := by unfold dl; rw [if_pos rfl]
theorem Ech.step {R r j l : Nat} {G : Mt} {p : Nat → Nat} (h : Ech R G r j p) (h1 : r ≤ l) (h2 : l < R) (hp : G (sg l r r) j ≠ 0) : Ech R (stM l r j G G) (r + 1) (j + 1) (fun k => if k = r then j else p k) := by
  have hr : r < R := by omega
  have sr : sg l r r = l := by
    unfold sg
    by_cases e : r = l
    · rw [if_pos e]; exact e
    · rw [if_neg e, if_pos rfl]
  have sge : ∀ i, r ≤ i → r ≤ sg l r i := fun i hi => by
    unfold sg
    split
    · omega
    · split <;> omega
  have slt : ∀ i, i < R → sg l r i < R := fun i hi => sg_lt h2 hr hi
  have kk : Fe.inv (G (sg l r r) j) * G (sg l r r) j = 1 := inv_mul hp
  have col : ∀ c, (∀ x, r ≤ x → x < R → G x c = 0) → ∀ i, i < R → stM l r j G G i c = if i = r then 0 else G (sg l r i) c := fun c hc i hi => by
    unfold stM
    dsimp only
    rw [hc (sg l r r) (by rw [sr]; exact h1) (by rw [sr]; exact h2), mul_zero, mul_zero, add_zero]
    by_cases e : i = r
    · rw [if_pos e, if_pos e, e, hc (sg l r r) (by rw [sr]; exact h1) (by rw [sr]; exact h2), mul_zero]
    · rw [if_neg e, if_neg e, one_mul]
  have colj : ∀ i, i < R → stM l r j G G i j = dl i r := fun i hi => by
    unfold stM
    dsimp only
    rw [if_pos rfl, kk, mul_one]
    by_cases e : i = r
    · rw [if_pos e, if_pos e, e, kk, add_zero, dl_eq]
    · rw [if_neg e, if_neg e, add_self, dl_ne e]
  refine ⟨by have := h.rj; omega, by omega, fun k hk => ?_, fun i h3 h4 c hc => ?_, fun e k hk => ?_⟩
  · by_cases e : k = r
    · rw [if_pos e]
      exact ⟨by omega, fun i hi => by rw [colj i hi, e]⟩
    · rw [if_neg e]
      obtain ⟨q1, q2⟩ := h.pv k (by omega)
      refine ⟨by omega, fun i hi => ?_⟩
      rw [col (p k) (fun x hx hx' => by rw [q2 x hx', dl_ne (by omega)]) i hi]
      by_cases e2 : i = r
      · rw [if_pos e2, dl_ne (by omega)]
      · rw [if_neg e2, q2 _ (slt i hi)]
        unfold sg
        by_cases e3 : i = l
        · rw [if_pos e3, dl_ne (by omega), dl_ne (by omega)]
        · rw [if_neg e3, if_neg e2]
  · by_cases e : c = j
    · rw [e, colj i h4, dl_ne (by omega)]
    · rw [col c (fun x hx hx' => h.zr x hx hx' c (by omega)) i h4, if_neg (by omega)]
      exact h.zr _ (sge i (by omega)) (slt i h4) c (by omega)
  · by_cases e2 : k = r
    · rw [if_pos e2]; omega
    · rw [if_neg e2]; exact h.sq (by omega) k (by omega)
theorem Ech.none {R r j : Nat} {G : Mt} {p : Nat → Nat} (h : Ech R G r j p) (hz : ∀ i, r ≤ i → i < R → G i j = 0) : Ech R G r (j + 1) p :=
  ⟨by have := h.rj; omega, h.rR, fun k hk => ⟨by have := (h.pv k hk).1; omega, (h.pv k hk).2⟩, fun i h1 h2 c hc => by
    by_cases e : c = j
    · rw [e]; exact hz i h1 h2
    · exact h.zr i h1 h2 c (by omega), fun e => by have := h.rj; omega⟩
theorem leadN_none (C j : Nat) (g : Nat → Nat) : ∀ m i, leadN C j g m i = i + m → ∀ x, i ≤ x → x < i + m → g (x * C + j) = 0
  | 0, i, _, x, h1, h2 => by omega
  | m + 1, i, h, x, h1, h2 => by
    unfold leadN at h
    split at h
    · rename_i e
      by_cases ex : x = i
      · rw [ex]; exact e
      · exact leadN_none C j g m (i + 1) (by omega) x (by omega) (by omega)
    · omega
theorem gaussN {R C C2 : Nat} (hC2 : 0 < C2) : ∀ (m j r : Nat) (g u : Nat → Nat) (p : Nat → Nat), j + m = C → El (R * C) g → El (R * C2) u → Ech R (Vw C g) r j p →
    ∃ T T' p' j', Inv R T T' ∧ Eqm R C (Vw C (stepsN R C C2 m j r g u).2.1) (mm R T (Vw C g)) ∧ Eqm R C2 (Vw C2 (stepsN R C C2 m j r g u).2.2) (mm R T (Vw C2 u)) ∧ El (R * C) (stepsN R C C2 m j r g u).2.1 ∧ El (R * C2) (stepsN R C C2 m j r g u).2.2 ∧
      Ech R (Vw C (stepsN R C C2 m j r g u).2.1) (stepsN R C C2 m j r g u).1 j' p' ∧ j' ≤ C ∧ (j' = C ∨ (stepsN R C C2 m j r g u).1 = R)
  | 0, j, r, g, u, p, hj, hg, hu, E => ⟨dl, dl, p, j, Inv.one R, (mm_dl (Nat.le_refl R) _).symm, (mm_dl (Nat.le_refl R) _).symm, hg, hu, E, by omega, .inl (by omega)⟩
  | m + 1, j, r, g, u, p, hj, hg, hu, E => by
    have hjC : j < C := by omega
    by_cases c1 : r < R
    · obtain ⟨l, hl⟩ : ∃ l, l = leadN C j g (R - r) r := ⟨_, rfl⟩
      have hle := leadN_le C j g (R - r) r
      rw [← hl] at hle
      by_cases c2 : l = R
      · have es : stepsN R C C2 (m + 1) j r g u = stepsN R C C2 m (j + 1) r g u := by
          simp only [stepsN]; rw [if_pos c1, ← hl, if_pos c2]
        rw [es]
        exact gaussN hC2 m (j + 1) r g u p (by omega) hg hu (E.none fun i h1 h2 => by
          unfold Vw
          rw [leadN_none C j g (R - r) r (by omega) i h1 (by omega), of_zero])
      · have es : stepsN R C C2 (m + 1) j r g u = stepsN R C C2 m (j + 1) (r + 1) (stepG C j l r g) (stepU C C2 j l r g u) := by
          simp only [stepsN]; rw [if_pos c1, ← hl, if_neg c2]
        have hlR : l < R := by omega
        have hp : g (l * C + j) ≠ 0 := by rw [hl]; exact leadN_ne C j g (R - r) r (by omega)
        have sr : sg l r r = l := by
          unfold sg
          by_cases e : r = l
          · rw [if_pos e]; exact e
          · rw [if_neg e, if_pos rfl]
        have hpV : Vw C g (sg l r r) j ≠ 0 := fun e => hp (by
          rw [sr] at e
          exact of_inj (hg _ (pos_lt hlR hjC)) (by omega) e)
        obtain ⟨gE, gL⟩ := Vw_stepG hg hlR c1 hjC hp
        obtain ⟨uE, uL⟩ := Vw_stepU hg hu hlR c1 hjC hC2 hp
        obtain ⟨T, T', TI, TE⟩ := st_inv (R := R) (jj := j) (A := Vw C g) hlR c1 hpV
        obtain ⟨S, S', p', j', SI, h1, h2, h3, h4, h5, h6, h7⟩ := gaussN hC2 m (j + 1) (r + 1) _ _ _ (by omega) gL uL ((E.step (by omega) hlR hpV).congr (by omega) gE)
        rw [es]
        refine ⟨mm R S T, _, p', j', SI.mul TI, ?_, ?_, h3, h4, h5, h6, h7⟩
        · rw [mm_assoc]
          exact h1.trans (mm_congr (Eqm.refl R R S) (gE.trans (TE C _)))
        · rw [mm_assoc]
          exact h2.trans (mm_congr (Eqm.refl R R S) (uE.trans (TE C2 _)))
    · have es : stepsN R C C2 (m + 1) j r g u = (r, g, u) := by simp only [stepsN]; rw [if_neg c1]
      rw [es]
      exact ⟨dl, dl, p, j, Inv.one R, (mm_dl (Nat.le_refl R) _).symm, (mm_dl (Nat.le_refl R) _).symm, hg, hu, E, by omega, .inr (by have := E.rR; show r = R; omega)⟩
theorem stepsN_fst {R C C2 C2' : Nat} : ∀ (m j r : Nat) (g u u' : Nat → Nat), (stepsN R C C2 m j r g u).1 = (stepsN R C C2' m j r g u').1
  | 0, _, _, _, _, _ => rfl
  | m + 1, j, r, g, u, u' => by
    simp only [stepsN]
    split
    · split
      · exact stepsN_fst m (j + 1) r g u u'
      · exact stepsN_fst m (j + 1) (r + 1) _ _ _
    · rfl
end Gd
namespace Gd
open Go Gx Go.Proofs Fe
def rk (R C : Nat) (g : Nat → Nat) : Nat := (stepsN R C 1 C 0 0 g fun _ => 0).1
theorem rk_any {R C : Nat} (C2 : Nat) (g u : Nat → Nat) : (stepsN R C C2 C 0 0 g u).1 = rk R C g := stepsN_fst _ _ _ _ _ _
theorem Vw_one {n i j : Nat} (hj : j < n) : Vw n (oneN n) i j = dl i j := by
  unfold Vw oneN dl
  rw [pos_div hj, pos_mod hj]
  split
  · exact of_one
  · exact of_zero
theorem oneN_El (n : Nat) : El (n * n) (oneN n) := fun t _ => by unfold oneN; split <;> omega
structure Gs (R C : Nat) (g : Nat → Nat) (T T' G : Mt) (p : Nat → Nat) : Prop where
  inv : Inv R T T'
  eq : Eqm R C G (mm R T (Vw C g))
  rR : rk R C g ≤ R
  pv : ∀ k, k < rk R C g → p k < C ∧ ∀ i, i < R → G i (p k) = dl i k
  zr : ∀ i, rk R C g ≤ i → i < R → ∀ c, c < C → G i c = 0
  sq : R = C → rk R C g = R → Eqm R R G dl
theorem gauss {R C : Nat} {g : Nat → Nat} (hR : 0 < R) (hg : El (R * C) g) : ∃ T T' G p, Gs R C g T T' G p ∧ Eqm R R (Vw R (stepsN R C R C 0 0 g (oneN R)).2.2) T := by
  obtain ⟨T, T', p, j, I, h1, h2, _, _, E, hj, h3⟩ := gaussN (C := C) hR C 0 0 g (oneN R) (fun k => k) (by omega) hg (oneN_El R) ⟨by omega, by omega, fun k hk => by omega, fun i _ _ c hc => by omega, fun _ k hk => by omega⟩
  have er := rk_any (R := R) (C := C) R g (oneN R)
  rw [er] at E h3
  refine ⟨T, T', _, p, ⟨I, h1, E.rR, fun k hk => ⟨by have := (E.pv k hk).1; omega, (E.pv k hk).2⟩, fun i h4 h5 c hc => ?_, fun e1 e2 => ?_⟩, ?_⟩
  · rcases h3 with h3 | h3
    · exact E.zr i h4 h5 c (by omega)
    · omega
  · subst e1
    have e3 : j = R := by
      have := E.rj
      omega
    intro i k hi hk
    have := (E.pv k (by omega)).2 i hi
    rwa [E.sq (by omega) k (by omega)] at this
  · exact h2.trans ((mm_congr (Eqm.refl R R T) (fun i j _ hj => Vw_one hj)).trans (dl_mm (Nat.le_refl R) T))
def Fac (k R C : Nat) (A : Mt) : Prop := ∃ P Q, Eqm R C A (mm k P Q)
theorem Gs.back {R C : Nat} {g : Nat → Nat} {T T' G : Mt} {p : Nat → Nat} (S : Gs R C g T T' G p) : Eqm R C (Vw C g) (mm R T' G) := by
  have : Eqm R C (mm R T' G) (mm R (mm R T' T) (Vw C g)) := by
    rw [mm_assoc]
    exact mm_congr (Eqm.refl R R T') S.eq
  exact (this.trans ((mm_congr S.inv.r (Eqm.refl R C _)).trans (mm_dl (Nat.le_refl R) _))).symm
theorem kernel {R C : Nat} {g : Nat → Nat} (hR : 0 < R) (hg : El (R * C) g) (h : rk R C g < R) : ∃ v : Nat → Fe, (∃ i, i < R ∧ v i ≠ 0) ∧ ∀ c, c < C → sm R (fun k => v k * Vw C g k c) = 0 := by
  obtain ⟨T, T', G, p, S, _⟩ := gauss hR hg
  refine ⟨T (R - 1), Classical.byContradiction fun hn => ?_, fun c hc => ?_⟩
  · have hz : ∀ i, i < R → T (R - 1) i = 0 := fun i hi => Classical.byContradiction fun e => hn ⟨i, hi, e⟩
    have := S.inv.l (R - 1) (R - 1) (by omega) (by omega)
    rw [dl_eq] at this
    exact one_ne (this.symm.trans (sm_zero fun k hk => by rw [hz k hk, zero_mul]))
  · exact (S.eq (R - 1) c (by omega) hc).symm.trans (S.zr (R - 1) (by omega) (by omega) c hc)
theorem Fac.congr {k R C : Nat} {A A' : Mt} (e : Eqm R C A A') (h : Fac k R C A) : Fac k R C A' := by
  obtain ⟨P, Q, f⟩ := h
  exact ⟨P, Q, e.symm.trans f⟩
theorem Fac.tr {k R C : Nat} {A : Mt} (h : Fac k R C A) : Fac k C R (tr A) := by
  obtain ⟨P, Q, e⟩ := h
  refine ⟨Gd.tr Q, Gd.tr P, fun i j hi hj => ?_⟩
  show A j i = _
  rw [e j i hj hi, ← tr_mm]
  rfl
end Gd
namespace Gd
open Go Gx Go.Proofs Fe
def ls : List Nat → (Nat → Fe) → Fe
  | [], _ => 0
  | y :: l, f => f y + ls l f
def cauN (k t : Nat) : Nat := (cau k t).toNat
theorem cauN_at {i j k : Nat} (hj : j < k) : cauN k (i * k + j) = if i < k then (if i = j then 1 else 0) else divT 1 (i ^^^ j) := by
  unfold cauN
  rw [cau_at hj]
  split
  · split <;> rfl
  · simp
theorem cauN_El {k N : Nat} (hk : 0 < k) : El N (cauN k) := fun t _ => by
  have e : t / k * k + t % k = t := by have := Nat.div_add_mod t k; rw [Nat.mul_comm] at this; exact this
  rw [← e, cauN_at (Nat.mod_lt _ hk)]
  split
  · split <;> omega
  · exact divT_lt
theorem Vw_cau {i j k : Nat} (hi : i < 256) (hj : j < k) (hk : k ≤ 256) : Vw k (cauN k) i j = if i < k then dl i j else Fe.inv (of i + of j) := by
  unfold Vw
  rw [cauN_at hj]
  by_cases e : i < k
  · rw [if_pos e, if_pos e]
    unfold dl
    split
    · exact of_one
    · exact of_zero
  · rw [if_neg e, if_neg e, ← of_xor hi (by omega)]
    refine Fe.ext ?_
    rw [of_v divT_lt]
    show _ = divT 1 (of (i ^^^ j)).v
    rw [of_v (xor_lt hi (by omega))]
end Gd
namespace Gd
open Go Gx Go.Proofs
structure Gl (base : Nat) (h : AHeap) (s : Slc) (xs : List Int) : Prop where
  st : ((s = nilS ∨ ∃ b0, s = ⟨some ⟨b0, 0, some 0⟩, 0, 0⟩) ∧ xs = []) ∨ ∃ b, Grown encI 3 h b s xs
  lt : ∀ a, s.a = some a → a.block < h.next ∧ base ≤ a.block
theorem Gl.nil (base : Nat) (h : AHeap) : Gl base h nilS [] := ⟨.inl ⟨.inl rfl, rfl⟩, fun a ha => by cases ha⟩
theorem Gl.zero {base b0 : Nat} {h : AHeap} (h1 : b0 < h.next) (h2 : base ≤ b0) : Gl base h ⟨some ⟨b0, 0, some 0⟩, 0, 0⟩ [] := ⟨.inl ⟨.inr ⟨b0, rfl⟩, rfl⟩, fun a ha => by cases ha; exact ⟨h1, h2⟩⟩
theorem Gl.row {base : Nat} {h : AHeap} {s : Slc} {xs : List Int} (G : Gl base h s xs) : Row encI h s xs := by
  rcases G.st with ⟨h1, rfl⟩ | ⟨b, g⟩
  · rcases h1 with rfl | ⟨b0, rfl⟩
    · exact Row.nil _ _ _ _
    · exact Row.nil _ _ _ _
  · exact g.row (G.lt ⟨b, 0, some 2⟩ (by rw [g.s])).1
theorem Gl.chg {base : Nat} {S : Nat → Prop} {h h' : AHeap} {s : Slc} {xs : List Int} (G : Gl base h s xs) (c : Chg S h h') (hs : ∀ a, s.a = some a → ¬ S a.block) : Gl base h' s xs := by
  refine ⟨G.st.imp id ?_, fun a ha => ⟨Nat.lt_of_lt_of_le (G.lt a ha).1 c.nx, (G.lt a ha).2⟩⟩
  rintro ⟨b, g⟩
  exact ⟨b, g.chg (G.lt ⟨b, 0, some 2⟩ (by rw [g.s])).1 c (hs ⟨b, 0, some 2⟩ (by rw [g.s]))⟩
theorem Gl.keeps {base : Nat} {h h' : AHeap} {s : Slc} {xs : List Int} (G : Gl base h s xs) (c : Keeps h h') : Gl base h' s xs := G.chg c fun _ _ f => f
theorem copy_nil' {h : AHeap} {xs : List Int} (hx : xs.length ≠ 0) (hs : 16 * xs.length ≤ 281474976710656) : appendA 1 8 3 h (⟨none, 0, 0⟩ : Slc) (xs.map encI) xs.length = some (whole h.next xs.length (some 2), h.new (outB encI 3 xs)) := by
  unfold appendA
  rw [if_neg (show ¬ (0 + xs.length ≤ 0) by omega), if_pos (show 2 * (0 + xs.length) * 8 ≤ 281474976710656 ∧ 1 ≤ 8 by omega)]
  rfl
theorem Gl.append {base : Nat} {h : AHeap} {s : Slc} {xs ys : List Int} (G : Gl base h s xs) (hs : 16 * (xs.length + ys.length) ≤ 281474976710656) (hb : base ≤ h.next) :
    ∃ s' h', appendA 1 8 3 h s (ys.map encI) ys.length = some (s', h') ∧ Gl base h' s' (xs ++ ys) ∧ Chg (ofS s) h h' ∧ ∀ a, s'.a = some a → h.next ≤ a.block ∨ ofS s a.block := by
  have nx : ∀ a : Addr, a.block < h.next → a.block < (h.new (outB encI 3 ys)).next := fun a ha => by simp; omega
  rcases G.st with ⟨h1, rfl⟩ | ⟨b, g⟩
  · by_cases e : ys = []
    · subst e
      rcases h1 with rfl | ⟨b0, rfl⟩
      · exact ⟨nilS, h, rfl, G, .refl _ _, fun a ha => by cases ha⟩
      · exact ⟨_, h, append_none (enc := encI), G, .refl _ _, fun a ha => .inr ⟨a, ha, rfl⟩⟩
    · have l0 : ys.length ≠ 0 := fun h => e (List.length_eq_zero_iff.1 h)
      have gr := Grown.of (enc := encI) (e := 3) (h := h) (xs := ys) e
      rcases h1 with rfl | ⟨b0, rfl⟩
      · exact ⟨_, _, copy_nil' l0 (by simp at hs; omega), ⟨.inr ⟨_, gr⟩, fun a ha => by cases ha; simp; omega⟩, Chg.new _ _, fun a ha => by cases ha; simp⟩
      · exact ⟨_, _, append_fresh (enc := encI) l0 (by simp at hs; omega) (by omega), ⟨.inr ⟨_, gr⟩, fun a ha => by cases ha; simp; omega⟩, Chg.new _ _, fun a ha => by cases ha; simp⟩
  · have hlt := G.lt ⟨b, 0, some 2⟩ (by rw [g.s])
    by_cases e : ys = []
    · subst e
      refine ⟨s, h, ?_, by rw [List.append_nil]; exact G, .refl _ _, fun a ha => .inr ⟨a, ha, rfl⟩⟩
      rw [g.s]
      simp [appendA]
    · have ap := g.append (bytes := 8) (ys := ys) (fun _ => rfl) e (by omega) (by omega)
      refine ⟨_, _, ap, ⟨.inr ⟨_, rfl, by simp, fun e' => e (List.append_eq_nil_iff.1 e').2⟩, fun a ha => by cases ha; simp; omega⟩, Chg.kill_new (.inr ⟨⟨b, 0, some 2⟩, by rw [g.s], rfl⟩), fun a ha => by cases ha; simp⟩
structure GA (H0 : AHeap) (base ob : Nat) (r c : Int) (xs : List Int) (h : AHeap) (s : Slc) : Prop where
  ch : Chg (fun x => base ≤ x) H0 h
  co : h.get ob = some (.cells (mcell r c s) 59 true 0)
  lo : ob < h.next
  bo : base ≤ ob
  gl : Gl base h s xs
  no : ∀ a, s.a = some a → a.block ≠ ob
theorem GA.push {H0 : AHeap} {base ob : Nat} {r c : Int} {xs : List Int} {h : AHeap} {s : Slc} (G : GA H0 base ob r c xs h s) (x : Int) (hs : xs.length ≤ 1000000) :
    ∃ g s' h1 h2, g = h.new (.cells [.int .i64 x] 3 true 0) ∧ Gx.rdS 1 (⟨some ⟨h.next, 0, some 0⟩, 1, 1⟩ : Slc) g = some [.int .i64 x] ∧ appendA 1 8 3 g s [.int .i64 x] 1 = some (s', h1) ∧ st1 ⟨ob, 2, none⟩ (.slice s'.a s'.len s'.cap) h1 = some h2 ∧
      g.get ob = some (.cells (mcell r c s) 59 true 0) ∧ GA H0 base ob r c (xs ++ [x]) h2 s' := by
  have k1 : Keeps h (h.new (.cells [.int .i64 x] 3 true 0)) := Keeps.new h _
  have lo := G.lo
  have bo := G.bo
  have cg : (h.new (.cells [.int .i64 x] 3 true 0)).get ob = some (.cells (mcell r c s) 59 true 0) := by rw [k1.oth _ lo (fun f => f)]; exact G.co
  obtain ⟨s', h1, ap, G1, c1, n1⟩ := (G.gl.keeps k1).append (ys := [x]) (by simp; omega) (by simp; omega)
  have no' : ∀ a, s'.a = some a → a.block ≠ ob := fun a ha => by
    rcases n1 a ha with q | ⟨b, hb, e⟩
    · simp at q; omega
    · rw [e]; exact G.no b hb
  have co1 : h1.get ob = some (.cells (mcell r c s) 59 true 0) := by rw [c1.oth _ (by simp; omega) (fun ⟨a, ha, e⟩ => G.no a ha e.symm)]; exact cg
  have cset : Chg (· = ob) h1 (h1.set ob (.cells (mcell r c s') 59 true 0)) := Chg.set (.inr rfl)
  have l1 : ob < h1.next := by have := c1.nx; simp at this; omega
  refine ⟨_, s', h1, _, rfl, rdS_one, ap, stS2 co1, cg, ⟨?_, by simp, l1, bo, G1.chg cset no', no'⟩⟩
  refine ((G.ch.trans (Chg.keeps k1)).trans (c1.wk fun x hx => ?_)).trans (cset.wk fun x _ e => ?_)
  · rintro ⟨a, ha, rfl⟩; exact (G.gl.lt a ha).2
  · have e : x = ob := e
    rw [e]; exact bo
end Gd
namespace Gd
open Go Gx Go.Proofs Fe
structure MV (sb fb : Nat) (h : AHeap) (b R C : Nat) (s : Slc) (g : Nat → Nat) : Prop where
  cel : h.get b = some (.cells (mcell R C s) 59 true 0)
  lt : b < h.next
  nf : b ≠ fb
  inm : InM h s (matN (R * C) g)
  ap : ∀ a, s.a = some a → a.block ≠ sb ∧ a.block ≠ fb
  r1 : 1 ≤ R
  r2 : R ≤ 255
  c1 : 1 ≤ C
  c2 : C ≤ 255
  el : El (R * C) g
section
variable {k0 : Nat} {sb fb : Nat} {h h' : AHeap} {b b2 R C C2 n : Nat} {s s2 : Slc} {f g : Nat → Nat}
theorem MV.chg (m : MV sb fb h b R C s g) (c : Chg (· = fb) h h') : MV sb fb h' b R C s g :=
  ⟨by rw [c.oth _ m.lt m.nf]; exact m.cel, Nat.lt_of_lt_of_le m.lt c.nx, m.nf, m.inm.chg c fun a ha => (m.ap a ha).2, m.ap, m.r1, m.r2, m.c1, m.c2, m.el⟩
theorem MV.keeps (m : MV sb fb h b R C s g) (c : Keeps h h') : MV sb fb h' b R C s g := m.chg (Chg.keeps c)
theorem MV.len (m : MV sb fb h b R C s g) : (matN (R * C) g).length ≤ 100000 := by
  rw [show (matN (R * C) g).length = R * C from mat_length _ _]
  exact Nat.le_trans (Nat.mul_le_mul m.r2 m.c2) (by omega)
theorem MV.put {h1 : AHeap} {X : (Int × Int × Slc) × Int} {p : MRes} (S : Spc h sb fb) (O : Out h h1 X p) (c1 : Chg (· = fb) h h1) (S1 : Spc h1 sb fb) (hp : p = (((R : Int), (C : Int), matN (R * C) g), 0)) (r1 : 1 ≤ R) (r2 : R ≤ 255) (q1 : 1 ≤ C) (q2 : C ≤ 255) (el : El (R * C) g) :
    ∃ h2 s', X = (((R : Int), (C : Int), s'), 0) ∧ stL 3 ⟨h1.next, 0, none⟩ (mcell R C s') (h1.new (.cells [.int .i64 0, .int .i64 0, .slice none 0 0] 59 true 0)) = some h2 ∧ MV sb fb h2 h1.next R C s' g ∧ Spc h2 sb fb ∧ Chg (· = fb) h h2 := by
  obtain ⟨⟨r, c, s'⟩, code⟩ := X
  subst hp
  obtain rfl : r = (R : Int) := O.r
  obtain rfl : c = (C : Int) := O.c
  obtain rfl : code = 0 := O.code
  obtain ⟨h2, st2, k2, n2, b2⟩ := mvar (h := h1) (e := 59) (r := (R : Int)) (c := (C : Int)) (s := s')
  have ls := S.ls
  have lf := S.lf
  have nx := c1.nx
  exact ⟨h2, s', rfl, st2, ⟨b2, by omega, by omega, O.inm.keeps k2, fun a ha => by have := O.off a ha; exact ⟨by omega, by omega⟩, r1, r2, q1, q2, el⟩, S1.keeps k2, c1.trans (Chg.keeps k2)⟩
end
end Gd
namespace Gd
open Go Gx Go.Proofs Fe
end Gd
namespace Gd
open Go Gx Go.Proofs Fe
section
variable {k0 : Nat} {H0 : AHeap} {base N K : Nat}
end
end Gd
namespace Gd
open Go Gx Go.Proofs
theorem cau_cast (k t : Nat) : cau k t = ((cauN k t : Nat) : Int) := by
  unfold cauN cau
  split
  · split <;> rfl
  · simp
structure GoodK (k m n : Nat) (ps : List Prt) : Prop where
  len : ps.length = k
  nd : (idxs ps).Nodup
  rng : ∀ x ∈ ps, 0 ≤ x.1 ∧ x.1 < ((k + m : Nat) : Int)
  sz : ∀ x ∈ ps, x.2.size = n
end Gd
namespace Gd
open Go Gx Go.Proofs
end Gd
namespace Gd
open Go Gx Go.Proofs
theorem addL_get {a b : List UInt8} {i : Nat} : (addL a b)[i]? = (a[i]?).bind fun x => (b[i]?).map fun y => x ^^^ y := by
  simp only [addL, List.getElem?_zipWith]
  cases a[i]? <;> cases b[i]? <;> rfl
theorem add_zero (n : Nat) : addL (List.replicate n 0) (List.replicate n 0) = List.replicate n (0 : UInt8) := by
  simp [addL]
theorem head_sz {n : Nat} {ls : List ByteArray} (h : sames n ls = true) (h0 : ls ≠ []) : (ls.headD ⟨#[]⟩).size = n := by
  cases ls with
  | nil => exact absurd rfl h0
  | cons a t => simp only [sames, List.all_cons, Bool.and_eq_true, beq_iff_eq] at h; exact h.1
theorem mixA_ok {n : Nat} {ls : List ByteArray} {cs : List Int} (h : sames n ls = true) (hl : ls.length = cs.length) (hin : cs.all inR = true) : ∃ m, mixA ls cs = (⟨⟨mixL ls cs (List.replicate m 0)⟩⟩, 0) ∧ (ls ≠ [] → m = n) ∧ (ls = [] → m = 0) := by
  refine ⟨(ls.headD ⟨#[]⟩).size, ?_, head_sz h, fun e => by rw [e]; rfl⟩
  unfold mixA
  have : sames (ls.headD ⟨#[]⟩).size ls = true := by
    by_cases e : ls = []
    · subst e; rfl
    · rw [head_sz h e]; exact h
  rw [if_pos hl, if_pos this, if_pos hin]
end Gd
namespace Gd
open Go Gx Go.Proofs Fe
def bv (l : List UInt8) (t : Nat) : Fe := of ((l[t]?.getD 0).toNat)
theorem bv_lt (c : UInt8) : c.toNat < 256 := UInt8.toNat_lt c
theorem bv_add {a b : List UInt8} {t : Nat} (ha : t < a.length) (hb : t < b.length) : bv (addL a b) t = bv a t + bv b t := by
  unfold bv
  rw [addL_get]
  obtain ⟨x, hx⟩ := isome ha
  obtain ⟨y, hy⟩ := isome hb
  simp only [hx, hy, Option.bind_some, Option.map_some, Option.getD_some]
  rw [UInt8.toNat_xor, of_xor (bv_lt x) (bv_lt y)]
theorem bv_scale {c : Nat} (hc : c < 256) {l : List UInt8} {t : Nat} (ht : t < l.length) : bv (scaleL c l) t = of c * bv l t := by
  unfold bv scaleL
  obtain ⟨x, hx⟩ := isome ht
  simp only [List.getElem?_map, hx, Option.map_some, Option.getD_some]
  have hm : mulT x.toNat c < 256 := mulT_lt _ _
  rw [toNat_ofNat, Nat.mod_eq_of_lt hm, of_mul (bv_lt x) hc, Fe.mul_comm]
theorem bv_zero (n t : Nat) : bv (List.replicate n 0) t = 0 := by
  unfold bv
  by_cases h : t < n
  · simp [h]; rfl
  · simp [h]; rfl
theorem sm_shift : ∀ (n : Nat) (f : Nat → Fe), sm (n + 1) f = f 0 + sm n fun i => f (i + 1)
  | 0, f => by show (0 : Fe) + f 0 = f 0 + 0; rw [Fe.zero_add, Fe.add_zero]
  | n + 1, f => by
    rw [sm_s, sm_shift n f, sm_s]
    show f 0 + sm n (fun i => f (i + 1)) + f (n + 1) = f 0 + (sm n (fun i => f (i + 1)) + f (n + 1))
    ac_rfl
theorem mixL_bv {n t : Nat} (ht : t < n) : ∀ (ls : List ByteArray) (cs : List Int) (o : List UInt8), ls.length = cs.length → (∀ s ∈ ls, s.size = n) → (∀ c ∈ cs, 0 ≤ c ∧ c < 256) → o.length = n →
    bv (mixL ls cs o) t = bv o t + sm ls.length fun j => of ((cs[j]?.getD 0).toNat) * bv (bl (ls[j]?.getD ⟨#[]⟩)) t
  | [], cs, o, _, _, _, _ => by show bv o t = bv o t + 0; rw [Fe.add_zero]
  | s :: ls, [], o, h, _, _, _ => by simp at h
  | s :: ls, c :: cs, o, h, hs, hc, ho => by
    have hss : (bl s).length = n := by rw [bl_length]; exact hs s (List.mem_cons_self ..)
    have hcc := hc c (List.mem_cons_self ..)
    have hsc : (scaleL c.toNat (bl s)).length = n := by rw [scaleL_length]; exact hs s (List.mem_cons_self ..)
    have hol : (addL o (scaleL c.toNat (bl s))).length = n := by simp [addL, ho, hsc]
    have ih := mixL_bv ht ls cs (addL o (scaleL c.toNat (bl s))) (by simpa using h) (fun x hx => hs x (List.mem_cons_of_mem _ hx)) (fun x hx => hc x (List.mem_cons_of_mem _ hx)) hol
    show bv (mixL ls cs (addL o (scaleL c.toNat (bl s)))) t = _
    rw [ih, bv_add (by omega) (by omega), bv_scale (by omega) (by omega), List.length_cons, sm_shift]
    simp only [List.getElem?_cons_zero, List.getElem?_cons_succ, Option.getD_some]
    ac_rfl
theorem sames_of {n : Nat} {ls : List ByteArray} (h : ∀ s ∈ ls, s.size = n) : sames n ls = true := List.all_eq_true.2 fun s hs => by simpa using h s hs
theorem inR_of {cs : List Int} (h : ∀ c ∈ cs, 0 ≤ c ∧ c < 256) : cs.all inR = true := List.all_eq_true.2 fun c hc => by
  have := h c hc
  unfold inR
  rw [decide_eq_false (by omega), decide_eq_false (by omega)]; rfl
theorem mix_bv {n : Nat} {ls : List ByteArray} {cs : List Int} (hne : ls ≠ []) (hl : ls.length = cs.length) (hs : ∀ s ∈ ls, s.size = n) (hc : ∀ c ∈ cs, 0 ≤ c ∧ c < 256) :
    (mixA ls cs).2 = 0 ∧ (mixA ls cs).1.size = n ∧ ∀ t, t < n → bv (bl (mixA ls cs).1) t = sm ls.length fun j => of ((cs[j]?.getD 0).toNat) * bv (bl (ls[j]?.getD ⟨#[]⟩)) t := by
  obtain ⟨m, h1, h2⟩ := mixA_ok (sames_of hs) hl (inR_of hc)
  have hm := h2.1 hne
  subst hm
  rw [h1]
  refine ⟨rfl, ?_, fun t ht => ?_⟩
  · rw [size_mk]; exact mixL_length (sames_of hs) (by simp)
  · rw [bl_mk, mixL_bv ht ls cs _ hl hs hc (by simp), bv_zero, Fe.zero_add]
theorem rowC_eq (k i : Nat) : rowC k i = (List.range k).map fun j => ((cauN k (i * k + j) : Nat) : Int) := List.map_congr_left fun _ _ => cau_cast k _
theorem row_range {k : Nat} {f : Nat → Nat} (hf : ∀ j, j < k → f j < 256) : ∀ c ∈ (List.range k).map (fun j => ((f j : Nat) : Int)), 0 ≤ c ∧ c < 256 := fun c hc => by
  obtain ⟨j, hj, rfl⟩ := List.mem_map.1 hc
  have := hf j (List.mem_range.1 hj); omega
theorem range_get {α : Type} {k j : Nat} {f : Nat → α} {d : α} (hj : j < k) : (((List.range k).map f)[j]?).getD d = f j := by simp [hj]
theorem piecesL_ne {k : Nat} (hk : 0 < k) (s : ByteArray) : piecesL k s ≠ [] := fun e => by
  have := congrArg List.length e
  rw [piecesL_length] at this
  have : k = 0 := this
  omega
theorem shard_bv {k m r : Nat} (hk : 0 < k) (hR : k + m ≤ 255) (s : ByteArray) (hr : r < k + m) : (shardB k s r).size = nE k s.size ∧ ∀ t, t < nE k s.size → bv (bl (shardB k s r)) t = sm k fun j => Vw k (cauN k) r j * bv (bl (pieceB k s j)) t := by
  have hE : ∀ j, j < k → cauN k (r * k + j) < 256 := fun j hj => cauN_El hk (N := (k + m) * k) _ (pos_lt hr hj)
  by_cases h : r < k
  · rw [shard_piece s h]
    refine ⟨pieceB_size hk s h, fun t _ => ?_⟩
    rw [sm_congr (g := fun j => dl r j * bv (bl (pieceB k s j)) t) fun j hj => by rw [Vw_cau (by omega) hj (by omega), if_pos h]]
    exact (sm_dl (fun j => bv (bl (pieceB k s j)) t) h).symm
  · have e : shardB k s r = (mixA (piecesL k s) (rowC k r)).1 := by unfold shardB; rw [if_neg h]
    obtain ⟨_, h2, h3⟩ := mix_bv (n := nE k s.size) (ls := piecesL k s) (cs := rowC k r) (piecesL_ne hk s) (by rw [piecesL_length, rowC_length]) (fun x hx => pieces_mem hk hx) (by rw [rowC_eq k r]; exact row_range hE)
    rw [e]
    refine ⟨h2, fun t ht => ?_⟩
    rw [h3 t ht, piecesL_length]
    refine sm_congr fun j hj => ?_
    rw [rowC_eq k r, range_get hj, Int.toNat_natCast]
    congr 2
    unfold piecesL
    rw [range_get hj]
structure OfS (k m : Nat) (s : ByteArray) (ps : List Prt) : Prop where
  good : GoodK k m (nE k s.size) ps
  data : ∀ x ∈ ps, x.2 = shardB k s x.1.toNat
end Gd
namespace Gd
open Go Gx Go.Proofs
theorem take_mid {α : Type} {l : List α} {n a b : Nat} (h : a + b ≤ n) : ((l.take n).drop a).take b = (l.drop a).take b := by
  rw [List.drop_take, List.take_take, Nat.min_eq_left (by omega)]
theorem cut_bad {x : Sh} (hc : chkA x = 0) {n : Nat} (hn : n < (textL x).length) : okS ⟨⟨(textL x).take n⟩⟩ = false := by
  cases h : okS ⟨⟨(textL x).take n⟩⟩ with
  | false => rfl
  | true =>
    exfalso
    unfold okS at h
    simp only [Bool.and_eq_true, decide_eq_true_eq] at h
    obtain ⟨h1, h2, _⟩ := h
    have hs : (⟨⟨(textL x).take n⟩⟩ : ByteArray).size = n := by rw [size_mk, List.length_take]; omega
    rw [hs] at h1
    have e := prs_text hc
    obtain ⟨c1, _, _, _, c5, c6⟩ := chk_facts hc
    obtain ⟨_, _, _, _, _, d6⟩ := chk_facts h2
    have hl := textL_length x
    have f1 : (prs ⟨⟨(textL x).take n⟩⟩).1 = x.1 := by
      rw [← congrArg (fun y : Sh => y.1) e]
      show ((numL 0 ((((textL x).take n).drop 4).take 1) : Nat) : Int) = ((numL 0 (((textL x).drop 4).take 1) : Nat) : Int)
      rw [take_mid (by omega)]
    have f4 : (prs ⟨⟨(textL x).take n⟩⟩).2.2.2.1 = x.2.2.2.1 := by
      rw [← congrArg (fun y : Sh => y.2.2.2.1) e]
      show ((numL 0 ((((textL x).take n).drop 7).take 4) : Nat) : Int) = ((numL 0 (((textL x).drop 7).take 4) : Nat) : Int)
      rw [take_mid (by omega)]
    have f6 : (prs ⟨⟨(textL x).take n⟩⟩).2.2.2.2.2.size = n - 47 := by
      show (⟨⟨(((textL x).take n).drop 43).take ((⟨⟨(textL x).take n⟩⟩ : ByteArray).size - 47)⟩⟩ : ByteArray).size = n - 47
      rw [hs, size_mk, List.length_take, List.length_drop, List.length_take]; omega
    rw [f1, f4, f6, ← c6] at d6
    omega
theorem turn_bad {x : Sh} {b : ByteArray} (hs : b.size = (textL x).length) {f p : Nat} (hp : p < 4294967296) (hf : f ≤ 8 * b.size) (h : leN (bl b) = leN (textL x) ^^^ 2 ^ f * p) (ho : okS b = true) : bl b = textL x := by
  unfold okS at ho
  simp only [Bool.and_eq_true, decide_eq_true_eq] at ho
  obtain ⟨_, _, h3⟩ := ho
  have hl : (headL x).length = (headL (prs b)).length := by
    have e1 : (textL x).length = (headL x).length + 4 := by unfold textL; rw [List.length_append]; rfl
    have e2 : (textL (prs b)).length = (headL (prs b)).length + 4 := by unfold textL; rw [List.length_append]; rfl
    rw [h3, bl_length] at e2
    omega
  rw [← h3] at h ⊢
  have e1 : (textL x).length = (headL x).length + 4 := by unfold textL; rw [List.length_append]; rfl
  exact burst hl hp (by omega) h
theorem shift_xor (n a b : Nat) : 2 ^ n * (a ^^^ b) = 2 ^ n * a ^^^ 2 ^ n * b := by
  apply Nat.eq_of_testBit_eq
  intro i
  rw [Nat.testBit_xor, Nat.testBit_two_pow_mul, Nat.testBit_two_pow_mul, Nat.testBit_two_pow_mul, Nat.testBit_xor]
  cases decide (n ≤ i) <;> simp
theorem leN_set (y : UInt8) : ∀ (l : List UInt8) (i : Nat) (x : UInt8), l[i]? = some x → leN (l.set i (x ^^^ y)) = leN l ^^^ 2 ^ (8 * i) * y.toNat
  | [], i, x, h => by simp at h
  | c :: l, 0, x, h => by
    simp at h
    subst h
    have e1 : leN ((c :: l).set 0 (c ^^^ y)) = (c ^^^ y).toNat + 2 ^ 8 * leN l := rfl
    have e2 : leN (c :: l) = c.toNat + 2 ^ 8 * leN l := rfl
    rw [e1, e2, add_xor 8 (c ^^^ y).toNat_lt, add_xor 8 c.toNat_lt, UInt8.toNat_xor]
    simp only [Nat.mul_zero, Nat.pow_zero, Nat.one_mul]
    ac_rfl
  | c :: l, i + 1, x, h => by
    have ih := leN_set y l i x (by simpa using h)
    have e1 : leN ((c :: l).set (i + 1) (x ^^^ y)) = c.toNat + 2 ^ 8 * leN (l.set i (x ^^^ y)) := rfl
    have e2 : leN (c :: l) = c.toNat + 2 ^ 8 * leN l := rfl
    rw [e1, e2, ih, add_xor 8 c.toNat_lt, add_xor 8 c.toNat_lt, shift_xor, ← Nat.mul_assoc, ← Nat.pow_add, show 8 + 8 * i = 8 * (i + 1) by omega, Nat.xor_assoc]
def shOf (k m : Nat) (data : ByteArray) (i : Nat) : Sh := ((k : Int), (m : Int), (i : Int), (data.size : Int), digB data, shardB k data i)
def txt (k m : Nat) (data : ByteArray) (i : Nat) : ByteArray := ⟨⟨textL (shOf k m data i)⟩⟩
theorem shOf_ok {k m : Nat} (hk : 0 < k) (hR : k + m ≤ 255) {data : ByteArray} (hd : data.size ≤ 65536) {i : Nat} (hi : i < k + m) : chkA (shOf k m data i) = 0 := by
  have hs := (shard_bv hk hR data hi).1
  have e : Int.tdiv ((data.size : Int) + (k : Int) - 1) (k : Int) = ((nE k data.size : Nat) : Int) := by
    have : (data.size : Int) + k - 1 = ((data.size + k - 1 : Nat) : Int) := by omega
    rw [this]; rfl
  unfold chkA shOf
  simp only [hs, e, digB_size]
  rw [if_neg (by omega), if_neg (by omega), if_neg (by omega), if_neg (by omega), if_neg (by omega), if_neg (by omega), if_neg (by omega), if_neg (by omega), if_neg (by simp), if_neg (by simp)]
theorem mk_l0 {k0 : Nat} (hk0 : 70000 ≤ k0) (D : CallF) (bot) {k m : Nat} (hk : 0 < k) (hR : k + m ≤ 255) {data : ByteArray} (hd : data.size ≤ 65536) {h0 : AHeap} {y : Slc} (R : Row encS h0 y (shardsL k m data)) :
    ∀ (d i : Nat) (o : Slc) (h : AHeap), i + d = k + m → Keeps h0 h → Acc encS 9 h0.next h o ((List.range i).map (txt k m data)) →
      Gx.Wp (iterK bot (d + 1) (shard_Make_l0b k0 D fun (out5 : Slc) (h6 : AHeap) => some ((out5, 0), h6)) (k : Int) (m : Int) data (digB data) o y ((k + m : Nat) : Int) (i : Int) h) fun q => q.1.2 = 0 ∧ Keeps h0 q.2 ∧ Acc encS 9 h0.next q.2 q.1.1 ((List.range (k + m)).map (txt k m data)) := fun d => by
  induction d with
  | zero =>
    intro i o h hi kp A
    rw [iterK_s]; simp only [shard_Make_l0b]
    obtain rfl : i = k + m := by omega
    exact Gx.Wp.ifn (by simp) (Gx.Wp.of ⟨rfl, kp, A⟩)
  | succ d ih =>
    intro i o h hi kp A
    rw [iterK_s]; simp only [shard_Make_l0b]
    refine Gx.Wp.ifp (by simp; omega) ?_
    obtain ⟨q, i1, i2⟩ := (R.keeps kp).ldS (shards_get (i := i) data (by omega))
    refine Gx.Wp.bnd i1 (Gx.Wp.bnd i2 ?_)
    obtain ⟨h1, e1, k1⟩ := text_spec (k := k0) hk0 D (shOf k m data i) h (shOf_ok hk hR hd (by omega))
    refine Gx.Wp.bnd e1 ?_
    refine Gx.Wp.bnd rdS_one ?_
    obtain ⟨o2, h2, e2, A2, c2, _⟩ := (A.keeps k1).push (bytes := 16) (fun _ => rfl) (txt k m data i) (by rw [List.length_map, List.length_range]; omega) (by omega) (kp.trans k1).nx
    refine Gx.Wp.bnd e2 ?_
    rw [Gx.w1 (by omega)]
    refine ih (i + 1) o2 h2 (by omega) (Chg.beh (kp.trans k1) c2 fun x hx ⟨a, ha, e⟩ => by have := (A.lt a ha).2; omega) ?_
    rw [List.range_succ, List.map_append]; exact A2
theorem make_spec {k0 : Nat} (hk0 : 70000 ≤ k0) {h : AHeap} (kg : KG 0 h) {k m : Nat} (hk : 0 < k) (hR : k + m ≤ 255) {data : ByteArray} (hd : data.size ≤ 65536) :
    Gx.Wp (shard_Make k0 (DD k0) (k : Int) (m : Int) data h) fun q => q.1.2 = 0 ∧ Keeps h q.2 ∧ Row encS q.2 q.1.1 ((List.range (k + m)).map (txt k m data)) ∧ ∀ a, q.1.1.a = some a → h.next ≤ a.block := by
  simp only [shard_Make]
  obtain ⟨h1, pb, f2, B, sb, fb, r1, p1, k1, a1, a2, a3, a4, a5⟩ := snew_spec (k0 := k0) (by omega) h hk hR
  refine Gx.Wp.bnd r1 (Gx.Wp.ifn (by simp) ?_)
  obtain ⟨h2, ob, r2, b2, o1, o2, p2, c2⟩ := split_spec hk0 p1 hk hR data hd
  have k2 : Keeps h h2 := Chg.beh k1 c2 fun x hx e => by have e : x = f2 := e; omega
  have Rs := shards_row b2 o2
  refine Gx.Wp.bnd r2 (Gx.Wp.ifn (by simp) ?_)
  have k3 : Keeps h2 (h2.new (.cells [.string data] 9 true 0)) := Keeps.new h2 _
  have R3 : Row encS (h2.new (.cells [.string data] 9 true 0)) (⟨some ⟨h2.next, 0, some 0⟩, 1, 1⟩ : Slc) [data] :=
    Row.of_block (enc := encS) (xs := [data]) (b := h2.next) (o := 0) (c := [.string data]) (e := 9) (r := true) (fz := 0) (by simp) (by simp) fun i x hx => by
      match i with
      | 0 => cases hx; rfl
      | i + 1 => simp at hx
  have cl : catL [data] = bl data := by simp [catL]
  refine Gx.Wp.call (sum_spec (k0 := k0) (by omega) (DD k0) (kg.chg (k2.trans k3) fun f => f) R3 (by rw [cl, bl_length]; omega) (by rw [cl, bl_length]; omega) (by simp; omega) (by simp)) fun q ⟨q1, q2⟩ => ?_
  rw [cl] at q1
  obtain ⟨dg, h4⟩ := q
  simp only at q1 q2 ⊢
  subst q1
  refine Gx.Wp.jn fun j hj => ?_
  unfold shard_Make_l0
  obtain ⟨bot, eb⟩ := iterK_of (fun _ _ _ _ _ _ _ _ _ => none) (shard_Make_l0b k0 (DD k0) j) (show (k + m) + 1 ≤ k0 by omega)
  rw [eb]
  subst hj
  have K4 : Keeps h h4 := k2.trans (k3.trans q2)
  refine (mk_l0 hk0 (DD k0) bot hk hR hd (h0 := h4) (Rs.keeps (k3.trans q2)) (k + m) 0 ⟨none, 0, 0⟩ h4 (by omega) (Chg.refl _ _) (Acc.nil _ _ _ _)).mono ?_
  rintro r ⟨z1, z2, z3⟩
  exact ⟨z1, K4.trans z2, z3.row, fun a ha => by have := (z3.lt a ha).2; have := K4.nx; omega⟩
end Gd
namespace Gd
open Go Gx Go.Proofs
theorem stu_l0 (K : Nat) (D : CallF) (j) (bot) {data s : ByteArray} {at' : Option Addr} {P : Int} {bb : Nat} {N first : Nat} (hN : N ≤ 100000) (hf : first < 8 * N) {S : Nat} {h0 : AHeap} (hbb : h0.next ≤ bb)
    (hj : ∀ h l p, Keeps h0 h → bb < h.next → h.get bb = some (.cells (l.map encB) 5 true 0) → l.length = N → p < 4294967296 → leN l = S ^^^ 2 ^ first * p → Tru (j data at' s (⟨some ⟨bb, 0, some 2⟩, N, N⟩ : Slc) h) true) :
    ∀ (d i : Nat) (h : AHeap) (l : List UInt8) (p : Nat), i + d = 32 → Keeps h0 h → bb < h.next → h.get bb = some (.cells (l.map encB) 5 true 0) → l.length = N → p < 2 ^ i → leN l = S ^^^ 2 ^ first * p →
      Tru (iterK bot (d + 1) (law06_ShardTurned_l0b K D j) data at' s P (⟨some ⟨bb, 0, some 2⟩, N, N⟩ : Slc) (first : Int) (i : Int) h) true := fun d => by
  induction d with
  | zero =>
    intro i h l p hi kp hlt0 hg hl hp he
    rw [iterK_s]; simp only [law06_ShardTurned_l0b]
    obtain rfl : i = 32 := by omega
    exact Tru.ifn (by simp) (hj h l p kp hlt0 hg hl (by simpa using hp) he)
  | succ d ih =>
    intro i h l p hi kp hlt0 hg hl hp he
    rw [iterK_s]; simp only [law06_ShardTurned_l0b]
    refine Tru.ifp (by simp; omega) ?_
    refine Tru.jn fun j1 hj1 => ?_
    refine Tru.jn fun j2 hj2 => ?_
    refine Tru.ifp (by omega) ?_
    have eb : IntKind.wrap .i64 ((first : Int) + (i : Int)) = ((first + i : Nat) : Int) := sw64 (by omega) (by omega)
    have e8 : IntKind.wrap .i64 (8 * (N : Int)) = ((8 * N : Nat) : Int) := sw64 (by omega) (by omega)
    have pw : 2 ^ i < 2 ^ (i + 1) := Nat.pow_lt_pow_right (by decide) (by omega)
    have no : Tru (j1 data at' s P (⟨some ⟨bb, 0, some 2⟩, N, N⟩ : Slc) (first : Int) (i : Int) h) true := by
      subst hj1
      dsimp only
      rw [Gx.w1 (by omega)]
      exact ih (i + 1) h l p (by omega) kp hlt0 hg hl (by omega) he
    rw [eb, e8]
    have yes : ∀ c : Bool, (c = true → first + i < 8 * N) → Tru (j2 data at' s P (⟨some ⟨bb, 0, some 2⟩, N, N⟩ : Slc) (first : Int) ((first + i : Nat) : Int) (i : Int) c h) true := by
      intro c hc
      subst hj2
      cases c with
      | false => exact Tru.ifn (by decide) no
      | true =>
        have hlt := hc rfl
        refine Tru.ifp rfl ?_
        have et : Int.tdiv ((first + i : Nat) : Int) 8 = (((first + i) / 8 : Nat) : Int) := rfl
        have em : Int.tmod ((first + i : Nat) : Int) 8 = (((first + i) % 8 : Nat) : Int) := rfl
        have hq : (first + i) / 8 < N := by omega
        obtain ⟨x, hx⟩ := isome (l := l) (i := (first + i) / 8) (by omega)
        rw [et, em, w64 _ (by omega)]
        refine Tru.bnd (idxL_out hq) (Tru.bnd (rdB_out hg hx) ?_)
        refine Tru.ifp (by omega) (Tru.bnd (idxL_out hq) ?_)
        have hm : min ((first + i) % 8) (IntKind.bits .u8) = (first + i) % 8 := Nat.min_eq_left (by show (first + i) % 8 ≤ 8; omega)
        have hp8 : 2 ^ ((first + i) % 8) < 256 := by
          have : 2 ^ ((first + i) % 8) ≤ 2 ^ 7 := Nat.pow_le_pow_right (by decide) (by omega)
          omega
        obtain ⟨y, hy⟩ : ∃ y : UInt8, y.toNat = 2 ^ ((first + i) % 8) := ⟨UInt8.ofNat (2 ^ ((first + i) % 8)), by rw [UInt8.toNat_ofNat']; exact Nat.mod_eq_of_lt hp8⟩
        have e91 : IntKind.wrap .u8 (1 * 2 ^ (min (((((first + i) % 8 : Nat) : Int))).toNat (IntKind.bits .u8))) = (y.toNat : Int) := by
          rw [Int.toNat_natCast, hm, hy, Int.one_mul]
          have : (2 : Int) ^ ((first + i) % 8) = ((2 ^ ((first + i) % 8) : Nat) : Int) := by simp
          rw [this]
          exact w8 _ (by omega)
        rw [e91, xor_u8]
        have hst := stB_out (sp := none) (i := (first + i) / 8) (x := (x ^^^ y).toNat) hg (by omega) (UInt8.toNat_lt _)
        rw [UInt8.ofNat_toNat] at hst
        refine Tru.bnd hst ?_
        subst hj1
        dsimp only
        rw [Gx.w1 (by omega)]
        refine ih (i + 1) _ (l.set ((first + i) / 8) (x ^^^ y)) (p + 2 ^ i) (by omega) (Keeps.set kp hbb) (by simpa using hlt0) (sset_get _ _ _) (by simpa using hl) (by rw [Nat.pow_succ]; omega) ?_
        rw [leN_set y l _ x hx, he, hy, ← Nat.pow_add, show 8 * ((first + i) / 8) + (first + i) % 8 = first + i by omega, Nat.xor_assoc]
        congr 1
        have e1 : p + 2 ^ i = p ^^^ 2 ^ i := by
          have := add_xor (c := p) (y := 1) i hp
          simpa using this
        rw [e1, shift_xor, ← Nat.pow_add]
    by_cases cb : (Go.bits .and .u32 (Int.fdiv P (2 ^ min (i : Int).toNat (IntKind.bits .u32))) 1 == 1) = true
    · refine Tru.ifp cb (yes _ fun h => ?_)
      have := of_decide_eq_true h
      omega
    · exact Tru.ifn cb (yes false fun h => by cases h)
theorem sturned_true {k0 : Nat} (hk0 : 200000 ≤ k0) {h : AHeap} (kg : KG 0 h) (data : ByteArray) (at' : Int × Int) (by' : Int) : Tru (law06_ShardTurned k0 (DD k0) data at' by' h) true := by
  simp only [law06_ShardTurned]
  obtain ⟨u, v⟩ := at'
  let h1 := h.new (.cells [.int .i64 u, .int .i64 v] 22 true 0)
  have k1 : Keeps h h1 := Keeps.new h _
  have b1 : h1.get h.next = some (.cells [.int .i64 u, .int .i64 v] 22 true 0) := by simp [h1]
  have n1 : h1.next = h.next + 1 := rfl
  obtain ⟨h2, r2, k2⟩ := works_spec (k := k0) (by omega) (DD k0) h1
  refine Tru.bnd r2 (Tru.ifn (by simp) ?_)
  by_cases c0 : (data.size : Int) > 300
  · exact Tru.ifp (by simpa using c0) Tru.of
  refine Tru.ifn (by simpa using c0) ?_
  have mk := make_spec (k0 := k0) (by omega) (kg.chg (k1.trans k2) fun f => f) (k := 2) (m := 1) (by decide) (by decide) (data := data) (by omega)
  obtain ⟨⟨⟨o, code⟩, h3⟩, r3, z1, k3, R3, _⟩ := mk
  simp only at z1 k3 R3
  subst z1
  have r3' : shard_Make k0 (DD k0) 2 1 data h2 = some ((o, 0), h3) := r3
  refine Tru.bnd r3' ?_
  refine Tru.jn fun j1 hj1 => ?_
  refine Tru.ifn (by simp) ?_
  subst hj1
  have ol : o.len = 3 := R3.1
  refine Tru.ifn (by rw [ol]; simp) ?_
  have K3 : Keeps h1 h3 := k2.trans k3
  have b3 : h3.get h.next = some (.cells [.int .i64 u, .int .i64 v] 22 true 0) := (K3.oth _ (by omega) (fun f => f)).trans b1
  have n3 := K3.nx
  obtain ⟨i0, hi0, ra⟩ := among_spec k0 (DD k0) u 3 h3 (by decide) (by decide)
  refine Tru.bnd rfl (Tru.bnd (ldI_at b3 rfl) (Tru.bnd ra ?_))
  have gi : ((List.range (2 + 1)).map (txt 2 1 data))[i0]? = some (txt 2 1 data i0) := by rw [List.getElem?_map, List.getElem?_range (by omega)]; rfl
  obtain ⟨q, i1, i2⟩ := R3.ldS gi
  refine Tru.bnd i1 (Tru.bnd i2 ?_)
  have hok := shOf_ok (k := 2) (m := 1) (by decide) (by decide) (data := data) (by omega) (i := i0) (by omega)
  obtain ⟨x, hx⟩ : ∃ x, x = shOf 2 1 data i0 := ⟨_, rfl⟩
  have htx : txt 2 1 data i0 = ⟨⟨textL x⟩⟩ := by rw [hx]; rfl
  rw [← hx] at hok
  rw [htx]
  obtain ⟨s, hs⟩ : ∃ s : ByteArray, s = ⟨⟨textL x⟩⟩ := ⟨_, rfl⟩
  rw [← hs]
  have bls : bl s = textL x := by rw [hs]; rfl
  have sz : s.size = (textL x).length := by rw [hs, size_mk]
  have szl : (textL x).length ≤ 70000 := by
    rw [textL_length]
    have := chk_size hok
    obtain ⟨_, _, _, _, c5, _⟩ := chk_facts hok
    omega
  have szg : 47 ≤ (textL x).length := by
    rw [textL_length]
    obtain ⟨_, _, _, _, c5, _⟩ := chk_facts hok
    omega
  refine Tru.jn fun j2 hj2 => ?_
  have key : ∀ P : Int, Tru (j2 data (some ⟨h.next, 0, none⟩) s P h3) true := by
    intro P
    subst hj2
    dsimp only
    let h4 := h3.new (.cells (bytesL s) 5 true 0)
    have k4 : Keeps h3 h4 := Keeps.new h3 _
    have g4 : h4.get h3.next = some (.cells ((bl s).map encB) 5 true 0) := by simp [h4, bytesL_bl]
    have b4 : h4.get h.next = some (.cells [.int .i64 u, .int .i64 v] 22 true 0) := (k4.oth _ (by omega) (fun f => f)).trans b3
    have e8 : IntKind.wrap .i64 (8 * (s.size : Int)) = ((8 * s.size : Nat) : Int) := sw64 (by omega) (by omega)
    obtain ⟨first, hfirst, rb⟩ := among_spec k0 (DD k0) v (8 * s.size) h4 (by omega) (by omega)
    refine Tru.bnd rfl (Tru.bnd (ldI_at b4 rfl) ?_)
    rw [e8]
    refine Tru.bnd rb ?_
    refine Tru.jn fun j3 hj3 => ?_
    unfold law06_ShardTurned_l0
    obtain ⟨bot, eb⟩ := iterK_of (fun _ _ _ _ _ _ _ _ => none) (law06_ShardTurned_l0b k0 (DD k0) j3) (show 32 + 1 ≤ k0 by omega)
    rw [eb]
    refine stu_l0 k0 (DD k0) j3 bot (bb := h3.next) (N := s.size) (first := first) (S := leN (textL x)) (by omega) hfirst (Nat.le_refl _) ?_ 32 0 h4 (bl s) 0 (by omega) k4 (by show h3.next < h3.next + 1; omega) g4 (bl_length s) (by decide) (by rw [bls]; simp)
    intro h5 l p k5 lt5 g5 hl hp he
    subst hj3
    dsimp only
    have bo := bytesOf_out (h := h5) (b := h3.next) (sp := some 2) (cap := s.size) (l := l) (e := 5) (r := true) (fz := 0) g5
    rw [hl] at bo
    obtain ⟨b, hb⟩ : ∃ b : ByteArray, b = ⟨⟨l⟩⟩ := ⟨_, rfl⟩
    rw [← hb] at bo
    have blb : bl b = l := by rw [hb]; rfl
    have szb : b.size = s.size := by rw [hb, size_mk, hl]
    obtain ⟨h6, r6, k6⟩ := dec_spec (k := k0) (by omega) (DD k0) b h5 (by omega)
    refine Tru.bnd bo (Tru.bnd r6 ?_)
    let h7 := h6.new (.cells (shC zSh) 32 true 0)
    have k7 : Keeps h6 h7 := Keeps.new h6 _
    have g7 : h7.get h6.next = some (.cells (shC zSh) 32 true 0) := by simp [h7]
    have s7 := stL_at (sp := none) (cs := shC (decS' b).1) g7 rfl rfl (shC_one _) (by decide)
    refine Tru.bnd s7 ?_
    obtain ⟨h8, e8'⟩ : ∃ h8, h8 = h7.set h6.next (.cells (shC (decS' b).1) 32 true 0) := ⟨_, rfl⟩
    rw [← e8']
    have k8 : Keeps h5 h8 := by rw [e8']; exact Keeps.set (k6.trans k7) k6.nx
    have n5 := k5.nx
    have lt6 : h3.next < h6.next := Nat.lt_of_lt_of_le lt5 k6.nx
    have g8 : h8.get h3.next = some (.cells (l.map encB) 5 true 0) := (k8.oth _ lt5 (fun f => f)).trans g5
    have bo8 := bytesOf_out (h := h8) (b := h3.next) (sp := some 2) (cap := s.size) (l := l) (e := 5) (r := true) (fz := 0) g8
    rw [hl, ← hb] at bo8
    have b8' : h8.get h.next = some (.cells [.int .i64 u, .int .i64 v] 22 true 0) := (k8.oth _ (by omega) (fun f => f)).trans ((k5.oth _ (by omega) (fun f => f)).trans b3)
    refine Tru.jn fun j4 hj4 => ?_
    have fin : Tru (j4 data (some ⟨h.next, 0, none⟩) s false h8) true := by
      subst hj4
      dsimp only
      refine Tru.ifn (by decide) ?_
      obtain ⟨n, hn, rn⟩ := among_spec k0 (DD k0) v s.size h8 (by omega) (by omega)
      refine Tru.bnd rfl (Tru.bnd (ldI_at b8' rfl) (Tru.bnd rn ?_))
      have es : Gx.subS s none (some (n : Int)) = some ⟨⟨(textL x).take n⟩⟩ := by
        have := subS_of (s := s) (lo := none) (hi := some (n : Int)) (i := 0) (j := n) rfl rfl (by omega) (by omega)
        rw [this, List.drop_zero, bls]
      refine Tru.bnd es ?_
      have hcut := cut_bad hok (n := n) (by omega)
      obtain ⟨h9, r9, k9⟩ := dec_spec (k := k0) (by omega) (DD k0) (⟨⟨(textL x).take n⟩⟩ : ByteArray) h8 (by rw [size_mk, List.length_take]; omega)
      have dcut : decS' (⟨⟨(textL x).take n⟩⟩ : ByteArray) = (zSh, 60) := by unfold decS'; rw [hcut]; rfl
      rw [dcut] at r9
      obtain ⟨h10, r10, k10⟩ := dec_spec (k := k0) (by omega) (DD k0) s h9 (by omega)
      have dtx : decS' s = (x, 0) := by rw [hs]; exact dec_text hok
      rw [dtx] at r10
      refine Tru.bnd r9 (Tru.bnd r10 ?_)
      let h11 := h10.new (.cells (shC zSh) 32 true 0)
      have g11 : h11.get h10.next = some (.cells (shC zSh) 32 true 0) := by simp [h11]
      have s11 := stL_at (sp := none) (cs := shC x) g11 rfl rfl (shC_one _) (by decide)
      refine Tru.bnd s11 ?_
      obtain ⟨h12, e12⟩ : ∃ h12, h12 = h11.set h10.next (.cells (shC x) 32 true 0) := ⟨_, rfl⟩
      rw [← e12]
      have g12 : h12.get h10.next = some (.cells (shC x) 32 true 0) := by rw [e12]; exact set_get _ _ _
      have n12 : h12.next = h10.next + 1 := by rw [e12]; rfl
      have k12 : Keeps h10 h12 := by rw [e12]; exact Keeps.set (Keeps.new h10 _) (Nat.le_refl _)
      refine Tru.ifp (by simp) (Tru.ifp (by simp) ?_)
      have k13 : Keeps h12 (h12.new (.cells [.string data] 9 true 0)) := Keeps.new h12 _
      have R13 : Row encS (h12.new (.cells [.string data] 9 true 0)) (⟨some ⟨h12.next, 0, some 0⟩, 1, 1⟩ : Slc) [data] :=
        Row.of_block (enc := encS) (xs := [data]) (b := h12.next) (o := 0) (c := [.string data]) (e := 9) (r := true) (fz := 0) (by simp) (by simp) fun i x hx => by
          match i with
          | 0 => cases hx; rfl
          | i + 1 => simp at hx
      have cl : catL [data] = bl data := by simp [catL]
      have K12 : Keeps h h12 := k1.trans (K3.trans (k5.trans (k8.trans (k9.trans (k10.trans k12)))))
      obtain ⟨⟨dg, h14⟩, r14, q1, q2⟩ := sum_spec (k0 := k0) (by omega) (DD k0) (kg.chg (K12.trans k13) fun f => f) R13 (by rw [cl, bl_length]; omega) (by rw [cl, bl_length]; omega) (by simp; omega) (by simp)
      rw [cl] at q1
      simp only at q1 q2
      subst q1
      refine Tru.bnd r14 ?_
      have g13 : (h12.new (.cells [.string data] 9 true 0)).get h10.next = some (.cells (shC x) 32 true 0) := (k13.oth _ (by omega) (fun f => f)).trans g12
      have g14 : h14.get h10.next = some (.cells (shC x) 32 true 0) := (q2.oth _ (Nat.lt_of_lt_of_le (by omega) k13.nx) (fun f => f)).trans g13
      have lid : ∀ {g : AHeap}, g.get h10.next = some (.cells (shC x) 32 true 0) → ldS ⟨h10.next, 4, none⟩ g = some x.2.2.2.2.1 := fun hg => ldS_at hg rfl
      refine Tru.bnd (lid g14) ?_
      have gd : guardP (SameW [h12.new (.cells [.string data] 9 true 0), h12] (fun H57 => (ldS (⟨h10.next, 4, none⟩ : Addr) H57).bind fun y56 => some (.string y56)) (.string x.2.2.2.2.1)) = fun (z : Option (Bool × AHeap)) => z := by
        funext z
        exact guardP_true (sw2 (by rw [lid g13]; rfl) (by rw [lid g12]; rfl))
      rw [gd]
      have hid : x.2.2.2.2.1 = digB data := by rw [hx]; rfl
      rw [hid]
      refine Tru.ifp (by rw [ba_beq]; exact decide_eq_true rfl) ?_
      refine Tru.bnd (ldI_at g14 (show (shC x)[3]? = some (.int .i64 x.2.2.2.1) from rfl)) ?_
      have hlong : x.2.2.2.1 = (data.size : Int) := by rw [hx]; rfl
      rw [hlong]
      have : ((data.size : Int) == (data.size : Int)) = true := by simp
      rw [this]; exact Tru.of
    refine Tru.bnd bo8 ?_
    by_cases ce : b = s
    · exact Tru.ifn (by simp [ba_beq, ce]) fin
    · refine Tru.ifp (by simp [ba_beq, ce]) ?_
      have hbad : okS b = false := by
        cases ho : okS b with
        | false => rfl
        | true =>
          exfalso
          have := turn_bad (x := x) (b := b) (by omega) hp (f := first) (by omega) (by rw [blb]; exact he) ho
          exact ce (bl_inj (by rw [this, bls]))
      have db : (decS' b).2 = 60 := by unfold decS'; rw [hbad]; rfl
      rw [db]
      exact fin
  by_cases c1 : (IntKind.wrap .u32 by' == 0) = true
  · exact Tru.ifp c1 (key 1)
  · exact Tru.ifn c1 (key _)
end Gd
