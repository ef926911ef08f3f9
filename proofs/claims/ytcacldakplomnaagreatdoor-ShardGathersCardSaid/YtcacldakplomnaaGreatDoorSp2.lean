import Derived.Test.YtcacldakplomnaaGreatDoorSp1
namespace Gz
open Go Gx Go.Proofs Fe
def ls : List Nat → (Nat → Fe) → Fe
 | [], _ => 0
 | y :: l, f => f y + ls l f
theorem zcs_ : ∀ {l : List Nat} {f g : Nat → Fe}, (∀ y ∈ l, f y = g y) → ls l f = ls l g
 | [], _, _, _ => rfl
 | y :: l, f, g, h => by
  show f y + ls l f = g y + ls l g
  rw [h y (by simp), zcs_ fun z hz => h z (by simp [hz])]
theorem zsA_ : ∀ {l : List Nat} {f : Nat → Fe}, (∀ y ∈ l, f y = 0) → ls l f = 0
 | [], _, _ => rfl
 | y :: l, f, h => by
  show f y + ls l f = 0
  rw [h y (by simp), zsA_ fun z hz => h z (by simp [hz]), add_zero]
theorem zJy_ : ∀ (l : List Nat) (f g : Nat → Fe), ls l (fun y => f y + g y) = ls l f + ls l g
 | [], _, _ => (add_zero 0).symm
 | y :: l, f, g => by
  show f y + g y + ls l (fun y => f y + g y) = f y + ls l f + (g y + ls l g)
  rw [zJy_ l f g]
  ac_rfl
theorem zUy_ : ∀ (l : List Nat) (c : Fe) (f : Nat → Fe), ls l (fun y => c * f y) = c * ls l f
 | [], c, _ => (zRg_ c).symm
 | y :: l, c, f => by
  show c * f y + ls l (fun y => c * f y) = c * (f y + ls l f)
  rw [zUy_ l c f, zHl_]
theorem zGv_ : ∀ (l m : List Nat) (f : Nat → Fe), ls (l ++ m) f = ls l f + ls m f
 | [], m, f => (zero_add _).symm
 | y :: l, m, f => by
  show f y + ls (l ++ m) f = f y + ls l f + ls m f
  rw [zGv_ l m f, add_assoc]
theorem zpF_ (p : Nat → Bool) : ∀ {k : Nat} {f : Nat → Fe}, (∀ j, p j = false → f j = 0) → sm k f = ls ((List.range k).filter p) f
 | 0, _, _ => rfl
 | k + 1, f, h => by
  rw [sm_s, List.range_succ, List.filter_append, zGv_, zpF_ p h]
  congr 1
  by_cases e : p k = true
  ·rw [List.filter_cons_of_pos e]
   show f k = f k + 0
   rw [add_zero]
  ·rw [List.filter_cons_of_neg e, h k (by simpa using e)]
   rfl
theorem zSD_ {a : Fe} (h : a ≠ 0) : Fe.inv a ≠ 0 := fun e => zwD_ (by rw [← zwq_ h, e, zero_mul])
theorem zrG_ {a b : Fe} (ha : a ≠ 0) (hb : b ≠ 0) : Fe.inv a + Fe.inv b = (a + b) * (Fe.inv a * Fe.inv b) := by
 rw [add_mul, ← zXc_, zvq_ ha, one_mul, mul_comm (Fe.inv a), ← zXc_, zvq_ hb, one_mul, add_comm]
theorem zTi_ {a b : Fe} (h : a ≠ b) : a + b ≠ 0 := fun e => h (zaz_ e)
theorem zjo_ : ∀ (ys xs : List Nat) (f : Nat → Fe), ys.Nodup → xs.Nodup → ys.length ≤ xs.length → (∀ x ∈ xs, ∀ y ∈ ys, of x ≠ of y) → (∀ a ∈ ys, ∀ b ∈ ys, of a = of b → a = b) → (∀ a ∈ xs, ∀ b ∈ xs, of a = of b → a = b) →
  (∀ x ∈ xs, ls ys (fun y => f y * Fe.inv (of x + of y)) = 0) → ∀ y ∈ ys, f y = 0
 | [], _, _, _, _, _, _, _, _, _ => fun y hy => by simp at hy
 | y0 :: ys, [], _, _, _, h, _, _, _, _ => by simp at h
 | y0 :: ys, x0 :: xs, f, ny, nx, hl, hxy, iy, ix, hz => by
  have n0 : of x0 + of y0 ≠ 0 := zTi_ (hxy x0 (by simp) y0 (by simp))
  have ny' := List.nodup_cons.1 ny
  have nx' := List.nodup_cons.1 nx
  have key : ∀ x ∈ x0 :: xs, f y0 + ls ys (fun y => f y + f y * ((of y0 + of y) * Fe.inv (of x + of y))) = 0 := fun x hx => by
   have h1 := hz x hx
   have nx0 : of x + of y0 ≠ 0 := zTi_ (hxy x hx y0 (by simp))
   have h2 : (of x + of y0) * ls (y0 :: ys) (fun y => f y * Fe.inv (of x + of y)) = 0 := by rw [h1, zRg_]
   rw [← zUy_] at h2
   have h3 : ls (y0 :: ys) (fun y => (of x + of y0) * (f y * Fe.inv (of x + of y))) = f y0 + ls ys (fun y => f y + f y * ((of y0 + of y) * Fe.inv (of x + of y))) := by
    show (of x + of y0) * (f y0 * Fe.inv (of x + of y0)) + ls ys _ = _
    congr 1
    ·rw [mul_comm (f y0), ← zXc_, zvq_ nx0, one_mul]
    ·refine zcs_ fun y hy => ?_
     have ne : of x + of y ≠ 0 := zTi_ (hxy x hx y (by simp [hy]))
     have e : of x + of y0 = (of x + of y) + (of y0 + of y) := by
      have : (of x + of y) + (of y0 + of y) = of x + of y0 + (of y + of y) := by ac_rfl
      rw [this, zSg_, add_zero]
     rw [e, add_mul, mul_comm (f y), ← zXc_, zvq_ ne, one_mul]
     congr 1
     ac_rfl
   rw [h3] at h2
   exact h2
  have ih := zjo_ ys xs (fun y => f y * (of y0 + of y) * Fe.inv (of x0 + of y)) ny'.2 nx'.2 (by simp at hl; exact hl) (fun x hx y hy => hxy x (by simp [hx]) y (by simp [hy])) (fun a ha b hb => iy a (by simp [ha]) b (by simp [hb]))
   (fun a ha b hb => ix a (by simp [ha]) b (by simp [hb])) (fun x hx => by
    have k0 := key x0 (by simp)
    have k1 := key x (by simp [hx])
    have nxx : of x + of x0 ≠ 0 := zTi_ fun e => nx'.1 (by rw [← ix x (by simp [hx]) x0 (by simp) e]; exact hx)
    refine zPm_ nxx ?_
    rw [← zUy_]
    have e1 : ls ys (fun y => (of x + of x0) * (f y * (of y0 + of y) * Fe.inv (of x0 + of y) * Fe.inv (of x + of y))) = ls ys (fun y => f y * ((of y0 + of y) * Fe.inv (of x + of y))) + ls ys (fun y => f y * ((of y0 + of y) * Fe.inv (of x0 + of y))) := by
     rw [← zJy_]
     refine zcs_ fun y hy => ?_
     have na : of x + of y ≠ 0 := zTi_ (hxy x (by simp [hx]) y (by simp [hy]))
     have nb : of x0 + of y ≠ 0 := zTi_ (hxy x0 (by simp) y (by simp [hy]))
     have s : of x + of x0 = of x + of y + (of x0 + of y) := by
      have : of x + of y + (of x0 + of y) = of x + of x0 + (of y + of y) := by ac_rfl
      rw [this, zSg_, add_zero]
     rw [← zHl_, ← zHl_, zrG_ na nb, ← s]
     ac_rfl
    rw [e1]
    rw [zJy_] at k0 k1
    have : (f y0 + (ls ys f + ls ys fun y => f y * ((of y0 + of y) * Fe.inv (of x + of y)))) + (f y0 + (ls ys f + ls ys fun y => f y * ((of y0 + of y) * Fe.inv (of x0 + of y)))) = 0 := by
     have q1 : (f y0 + (ls ys f + ls ys fun y => f y * ((of y0 + of y) * Fe.inv (of x + of y)))) = 0 := k1
     have q0 : (f y0 + (ls ys f + ls ys fun y => f y * ((of y0 + of y) * Fe.inv (of x0 + of y)))) = 0 := k0
     rw [q1, q0, add_zero]
    have e2 : (f y0 + (ls ys f + ls ys fun y => f y * ((of y0 + of y) * Fe.inv (of x + of y)))) + (f y0 + (ls ys f + ls ys fun y => f y * ((of y0 + of y) * Fe.inv (of x0 + of y)))) =
      (f y0 + f y0) + (ls ys f + ls ys f) + (ls ys (fun y => f y * ((of y0 + of y) * Fe.inv (of x + of y))) + ls ys (fun y => f y * ((of y0 + of y) * Fe.inv (of x0 + of y)))) := by ac_rfl
    rw [e2, zSg_, zSg_, add_zero, zero_add] at this
    exact this)
  have hys : ∀ y ∈ ys, f y = 0 := fun y hy => by
   have h1 := ih y hy
   have na : of y0 + of y ≠ 0 := zTi_ fun e => ny'.1 (by rw [iy y0 (by simp) y (by simp [hy]) e]; exact hy)
   have nb : Fe.inv (of x0 + of y) ≠ 0 := zSD_ (zTi_ (hxy x0 (by simp) y (by simp [hy])))
   have : (of y0 + of y) * Fe.inv (of x0 + of y) * f y = 0 := by
    rw [← h1]; ac_rfl
   exact zPm_ (zgD_ na nb) this
  intro y hy
  rcases List.mem_cons.1 hy with rfl | hy
  ·have h1 := hz x0 (by simp)
   have h2 : f y * Fe.inv (of x0 + of y) + ls ys (fun z => f z * Fe.inv (of x0 + of z)) = 0 := h1
   rw [zsA_ fun z hz => by rw [hys z hz, zero_mul], add_zero, mul_comm] at h2
   exact zPm_ (zSD_ n0) h2
  ·exact hys y hy
theorem zmh_ {p : Nat → Bool} {l : List Nat} (h : l.Nodup) : (l.filter p).Nodup := List.Pairwise.filter p h
theorem zEx_ : ∀ (k : Nat) (l : List Nat), l.Nodup → (∀ x ∈ l, x < k) → l.length ≤ k
 | 0, l, _, h => by
  cases l with
  | nil => simp
  | cons x l => exact absurd (h x (by simp)) (by omega)
 | k + 1, l, hn, h => by
  have ih := zEx_ k (l.erase k) (hn.erase k) fun x hx => by
   have h1 := (List.Nodup.mem_erase_iff hn).1 hx
   have := h x h1.2
   have := h1.1
   omega
  have := List.length_erase (a := k) (l := l)
  rw [this] at ih
  split at ih <;> omega
def cauN (k t : Nat) : Nat := (cau k t).toNat
theorem zeA_ {i j k : Nat} (hj : j < k) : cauN k (i * k + j) = if i < k then (if i = j then 1 else 0) else divT 1 (i ^^^ j) := by
 unfold cauN
 rw [zrm_ hj]
 split
 ·split <;> rfl
 ·simp
theorem zRj_ {k N : Nat} (hk : 0 < k) : El N (cauN k) := fun t _ => by
 have e : t / k * k + t % k = t := by have := Nat.div_add_mod t k; rw [Nat.mul_comm] at this; exact this
 rw [← e, zeA_ (Nat.mod_lt _ hk)]
 split
 ·split <;> omega
 ·exact zfd_
theorem zrD_ {i j k : Nat} (hi : i < 256) (hj : j < k) (hk : k ≤ 256) : Vw k (cauN k) i j = if i < k then dl i j else Fe.inv (of i + of j) := by
 unfold Vw
 rw [zeA_ hj]
 by_cases e : i < k
 ·rw [if_pos e, if_pos e]
  unfold dl
  split
  ·exact zWC_
  ·exact zQu_
 ·rw [if_neg e, if_neg e, ← zts_ hi (by omega)]
  refine Fe.ext ?_
  rw [of_v zfd_]
  show _ = divT 1 (of (i ^^^ j)).v
  rw [of_v (zOh_ hi (by omega))]
theorem zfE_ {k n : Nat} (hk : 0 < k) (hn : n ≤ 255) {ws : List Nat} (hl : ws.length = k) (hnd : ws.Nodup) (hlt : ∀ x ∈ ws, x < n) (w : Nat → Nat) (hw : ∀ i, i < k → ws[i]? = some (w i)) (hkn : k ≤ n) :
  rk k k (zeb_ k (cauN k) w) = k := by
 have hwn : ∀ i, i < k → w i < n := fun i hi => hlt _ (zOl_ (hw i hi))
 have hE : El (k * k) (zeb_ k (cauN k) w) := fun t ht => by
  unfold zeb_
  exact zRj_ hk (N := n * k) _ (zQb_ (hwn _ ((Nat.div_lt_iff_lt_mul hk).2 ht)) (Nat.mod_lt _ hk))
 have hT := zZF_ hk hE
 have hrt := zDH_ hk hk hE hT zfA_
 have hle : rk k k (zeb_ k (cauN k) w) ≤ k := zbB_
 refine Classical.byContradiction fun hne => ?_
 obtain ⟨v, ⟨j0, hj0, hv0⟩, hz⟩ := kernel hk hT (by omega : rk k k (zFq_ k k (zeb_ k (cauN k) w)) < k)
 have eqn : ∀ i, i < k → sm k (fun j => v j * Vw k (cauN k) (w i) j) = 0 := fun i hi => by
  rw [← hz i hi]
  refine zub_ fun j hj => ?_
  rw [zfA_ j i hj hi]
  show _ = v j * of (zeb_ k (cauN k) w (i * k + j))
  rw [zVr_ hj]
  rfl
 have low : ∀ i, i < k → w i < k → v (w i) = 0 := fun i hi hwi => by
  have := eqn i hi
  rw [zub_ (g := fun j => v j * dl j (w i)) fun j hj => by rw [zrD_ (by have := hwn i hi; omega) hj (by omega), if_pos hwi, zPF_], sm_dl' v hwi] at this
  exact this
 have idx : ∀ x ∈ ws, ∃ i, i < k ∧ w i = x := fun x hx => by
  obtain ⟨i, hi, e⟩ := List.mem_iff_getElem.1 hx
  refine ⟨i, by omega, ?_⟩
  have := hw i (by omega)
  rw [List.getElem?_eq_getElem hi, e] at this
  exact (Option.some.inj this).symm
 obtain ⟨p, hp⟩ : ∃ p : Nat → Bool, ∀ j, p j = true ↔ v j ≠ 0 := ⟨fun j => @decide (v j ≠ 0) (Classical.propDecidable _), fun j => by simp⟩
 have hpz : ∀ j, p j = false → v j = 0 := fun j hj => Classical.byContradiction fun e => by
  have := (hp j).2 e
  rw [hj] at this
  cases this
 have ysmem : ∀ y ∈ (List.range k).filter p, y < k ∧ v y ≠ 0 := fun y hy => by
  have := List.mem_filter.1 hy
  exact ⟨List.mem_range.1 this.1, (hp y).1 this.2⟩
 have hcount : ((List.range k).filter p).length ≤ (ws.filter fun x => !decide (x < k)).length := by
  have h1 : ((List.range k).filter p ++ ws.filter fun x => decide (x < k)).length ≤ k := by
   refine zEx_ k _ ?_ fun x hx => ?_
   ·refine List.nodup_append.2 ⟨zmh_ List.nodup_range, zmh_ hnd, fun a ha b hb e => ?_⟩
    subst e
    have h2 := ysmem a ha
    have h3 := List.mem_filter.1 hb
    obtain ⟨i, hi, hwi⟩ := idx a h3.1
    exact h2.2 (by rw [← hwi]; exact low i hi (by rw [hwi]; exact h2.1))
   ·rcases List.mem_append.1 hx with hx | hx
    ·exact (ysmem x hx).1
    ·have := (List.mem_filter.1 hx).2
     simpa using this
  have h2 : ∀ l : List Nat, (l.filter fun x => decide (x < k)).length + (l.filter fun x => !decide (x < k)).length = l.length := by
   intro l
   induction l with
   | nil => rfl
   | cons x l ih =>
    by_cases c : x < k
    ·rw [List.filter_cons_of_pos (by simpa using c), List.filter_cons_of_neg (by simpa using c), List.length_cons, List.length_cons]; omega
    ·rw [List.filter_cons_of_neg (by simpa using c), List.filter_cons_of_pos (by simpa using c), List.length_cons, List.length_cons]; omega
  rw [List.length_append] at h1
  have := h2 ws
  omega
 have oinj : ∀ a b, a < 256 → b < 256 → of a = of b → a = b := fun a b ha hb h => zyt_ ha hb h
 have all := zjo_ ((List.range k).filter p) (ws.filter fun x => !decide (x < k)) v (zmh_ List.nodup_range) (zmh_ hnd) hcount
  (fun x hx y hy e => by
   have h1 := List.mem_filter.1 hx
   have h2 := (ysmem y hy).1
   have h3 := hlt x h1.1
   have := oinj x y (by omega) (by omega) e
   have h4 := h1.2
   simp at h4
   omega)
  (fun a ha b hb e => oinj a b (by have := (ysmem a ha).1; omega) (by have := (ysmem b hb).1; omega) e)
  (fun a ha b hb e => oinj a b (by have := hlt a (List.mem_filter.1 ha).1; omega) (by have := hlt b (List.mem_filter.1 hb).1; omega) e)
  (fun x hx => by
   have h1 := List.mem_filter.1 hx
   obtain ⟨i, hi, hwi⟩ := idx x h1.1
   have h4 := h1.2
   simp at h4
   have := eqn i hi
   rw [zub_ (g := fun j => v j * Fe.inv (of x + of j)) fun j hj => by rw [zrD_ (by have := hwn i hi; omega) hj (by omega), if_neg (by omega), hwi]] at this
   rw [← zpF_ p fun j hj => by rw [hpz j hj, zero_mul]]
   exact this)
 exact hv0 (all j0 (List.mem_filter.2 ⟨List.mem_range.2 hj0, (hp j0).2 hv0⟩))
end Gz
namespace Gz
open Go Gx Go.Proofs
structure Gl (base : Nat) (h : AHeap) (s : Slc) (xs : List Int) : Prop where
 st : ((s = nilS ∨ ∃ b0, s = ⟨some ⟨b0, 0, some 0⟩, 0, 0⟩) ∧ xs = []) ∨ ∃ b, Grown encI 3 h b s xs
 lt : ∀ a, s.a = some a → a.block < h.next ∧ base ≤ a.block
theorem Gl.nil (base : Nat) (h : AHeap) : Gl base h nilS [] := ⟨.inl ⟨.inl rfl, rfl⟩, fun a ha => by cases ha⟩
theorem Gl.zero {base b0 : Nat} {h : AHeap} (h1 : b0 < h.next) (h2 : base ≤ b0) : Gl base h ⟨some ⟨b0, 0, some 0⟩, 0, 0⟩ [] := ⟨.inl ⟨.inr ⟨b0, rfl⟩, rfl⟩, fun a ha => by cases ha; exact ⟨h1, h2⟩⟩
theorem Gl.row {base : Nat} {h : AHeap} {s : Slc} {xs : List Int} (G : Gl base h s xs) : Row encI h s xs := by
 rcases G.st with ⟨h1, rfl⟩ | ⟨b, g⟩
 ·rcases h1 with rfl | ⟨b0, rfl⟩
  ·exact Row.nil _ _ _ _
  ·exact Row.nil _ _ _ _
 ·exact g.row (G.lt ⟨b, 0, some 2⟩ (by rw [g.s])).1
theorem Gl.chg {base : Nat} {S : Nat → Prop} {h h' : AHeap} {s : Slc} {xs : List Int} (G : Gl base h s xs) (c : Chg S h h') (hs : ∀ a, s.a = some a → ¬ S a.block) : Gl base h' s xs := by
 refine ⟨G.st.imp id ?_, fun a ha => ⟨Nat.lt_of_lt_of_le (G.lt a ha).1 c.nx, (G.lt a ha).2⟩⟩
 rintro ⟨b, g⟩
 exact ⟨b, g.chg (G.lt ⟨b, 0, some 2⟩ (by rw [g.s])).1 c (hs ⟨b, 0, some 2⟩ (by rw [g.s]))⟩
theorem Gl.keeps {base : Nat} {h h' : AHeap} {s : Slc} {xs : List Int} (G : Gl base h s xs) (c : zb_ h h') : Gl base h' s xs := G.chg c fun _ _ f => f
theorem Gl.inM {base : Nat} {h : AHeap} {s : Slc} {xs : List Int} (G : Gl base h s xs) : InM h s xs := by
 refine ⟨G.row, fun hx => ?_⟩
 rcases G.st with ⟨_, e⟩ | ⟨b, g⟩
 ·exact absurd e hx
 ·exact ⟨b, some 2, g.s, rfl, g.blk, (G.lt ⟨b, 0, some 2⟩ (by rw [g.s])).1⟩
theorem copy_nil' {h : AHeap} {xs : List Int} (hx : xs.length ≠ 0) (hs : 16 * xs.length ≤ 281474976710656) : zs_ 1 8 3 h (⟨none, 0, 0⟩ : Slc) (xs.map encI) xs.length = some (zk_ h.next xs.length (some 2), h.new (outB encI 3 xs)) := by
 unfold zs_
 rw [if_neg (show ¬ (0 + xs.length ≤ 0) by omega), if_pos (show 2 * (0 + xs.length) * 8 ≤ 281474976710656 ∧ 1 ≤ 8 by omega)]
 rfl
theorem Gl.append {base : Nat} {h : AHeap} {s : Slc} {xs ys : List Int} (G : Gl base h s xs) (hs : 16 * (xs.length + ys.length) ≤ 281474976710656) (hb : base ≤ h.next) :
  ∃ s' h', zs_ 1 8 3 h s (ys.map encI) ys.length = some (s', h') ∧ Gl base h' s' (xs ++ ys) ∧ Chg (ofS s) h h' ∧ ∀ a, s'.a = some a → h.next ≤ a.block ∨ ofS s a.block := by
 have nx : ∀ a : Addr, a.block < h.next → a.block < (h.new (outB encI 3 ys)).next := fun a ha => by simp; omega
 rcases G.st with ⟨h1, rfl⟩ | ⟨b, g⟩
 ·by_cases e : ys = []
  ·subst e
   rcases h1 with rfl | ⟨b0, rfl⟩
   ·exact ⟨nilS, h, rfl, G, .refl _ _, fun a ha => by cases ha⟩
   ·exact ⟨_, h, zAz_ (enc := encI), G, .refl _ _, fun a ha => .inr ⟨a, ha, rfl⟩⟩
  ·have l0 : ys.length ≠ 0 := fun h => e (List.length_eq_zero_iff.1 h)
   have gr := Grown.of (enc := encI) (e := 3) (h := h) (xs := ys) e
   rcases h1 with rfl | ⟨b0, rfl⟩
   ·exact ⟨_, _, copy_nil' l0 (by simp at hs; omega), ⟨.inr ⟨_, gr⟩, fun a ha => by cases ha; simp; omega⟩, Chg.new _ _, fun a ha => by cases ha; simp⟩
   ·exact ⟨_, _, zIo_ (enc := encI) l0 (by simp at hs; omega) (by omega), ⟨.inr ⟨_, gr⟩, fun a ha => by cases ha; simp; omega⟩, Chg.new _ _, fun a ha => by cases ha; simp⟩
 ·have hlt := G.lt ⟨b, 0, some 2⟩ (by rw [g.s])
  by_cases e : ys = []
  ·subst e
   refine ⟨s, h, ?_, by rw [List.append_nil]; exact G, .refl _ _, fun a ha => .inr ⟨a, ha, rfl⟩⟩
   rw [g.s]
   simp [zs_]
  ·have ap := g.append (bytes := 8) (ys := ys) (fun _ => rfl) e (by omega) (by omega)
   refine ⟨_, _, ap, ⟨.inr ⟨_, rfl, by simp, fun e' => e (List.append_eq_nil_iff.1 e').2⟩, fun a ha => by cases ha; simp; omega⟩, Chg.kill_new (.inr ⟨⟨b, 0, some 2⟩, by rw [g.s], rfl⟩), fun a ha => by cases ha; simp⟩
structure GA (H0 : AHeap) (base ob : Nat) (r c : Int) (xs : List Int) (h : AHeap) (s : Slc) : Prop where
 ch : Chg (fun x => base ≤ x) H0 h
 co : h.get ob = some (.cells (zg_ r c s) 84 true 0)
 lo : ob < h.next
 bo : base ≤ ob
 gl : Gl base h s xs
 no : ∀ a, s.a = some a → a.block ≠ ob
theorem GA.push {H0 : AHeap} {base ob : Nat} {r c : Int} {xs : List Int} {h : AHeap} {s : Slc} (G : GA H0 base ob r c xs h s) (x : Int) (hs : xs.length ≤ 1000000) :
  ∃ g s' h1 h2, g = h.new (.cells [.int .i64 x] 3 true 0) ∧ Gx.rdS 1 (⟨some ⟨h.next, 0, some 0⟩, 1, 1⟩ : Slc) g = some [.int .i64 x] ∧ zs_ 1 8 3 g s [.int .i64 x] 1 = some (s', h1) ∧ st1 ⟨ob, 2, none⟩ (.slice s'.a s'.len s'.cap) h1 = some h2 ∧
   g.get ob = some (.cells (zg_ r c s) 84 true 0) ∧ GA H0 base ob r c (xs ++ [x]) h2 s' := by
 have k1 : zb_ h (h.new (.cells [.int .i64 x] 3 true 0)) := zb_.new h _
 have lo := G.lo
 have bo := G.bo
 have cg : (h.new (.cells [.int .i64 x] 3 true 0)).get ob = some (.cells (zg_ r c s) 84 true 0) := by rw [k1.oth _ lo (fun f => f)]; exact G.co
 obtain ⟨s', h1, ap, G1, c1, n1⟩ := (G.gl.keeps k1).append (ys := [x]) (by simp; omega) (by simp; omega)
 have no' : ∀ a, s'.a = some a → a.block ≠ ob := fun a ha => by
  rcases n1 a ha with q | ⟨b, hb, e⟩
  ·simp at q; omega
  ·rw [e]; exact G.no b hb
 have co1 : h1.get ob = some (.cells (zg_ r c s) 84 true 0) := by rw [c1.oth _ (by simp; omega) (fun ⟨a, ha, e⟩ => G.no a ha e.symm)]; exact cg
 have cset : Chg (· = ob) h1 (h1.set ob (.cells (zg_ r c s') 84 true 0)) := Chg.set (.inr rfl)
 have l1 : ob < h1.next := by have := c1.nx; simp at this; omega
 refine ⟨_, s', h1, _, rfl, zTj_, ap, stS2 co1, cg, ⟨?_, by simp, l1, bo, G1.chg cset no', no'⟩⟩
 refine ((G.ch.trans (Chg.keeps k1)).trans (c1.wk fun x hx => ?_)).trans (cset.wk fun x _ e => ?_)
 ·rintro ⟨a, ha, rfl⟩; exact (G.gl.lt a ha).2
 ·have e : x = ob := e
  rw [e]; exact bo
end Gz
namespace Gz
open Go Gx Go.Proofs Fe
theorem zqA_ {R C : Nat} {g : Nat → Nat} (h1 : 1 ≤ R) (h2 : R ≤ 255) (h3 : 1 ≤ C) (h4 : C ≤ 255) (hg : El (R * C) g) : chk R C (matN (R * C) g) = 0 := by
 unfold chk
 rw [if_neg (by omega), if_neg, if_pos]
 ·rw [List.all_eq_true]
  intro x hx
  obtain ⟨t, ht, e⟩ := List.mem_iff_getElem.1 hx
  have hl : (matN (R * C) g).length = R * C := zF_ _ _
  have e2 : (matN (R * C) g)[t]? = some x := by rw [List.getElem?_eq_getElem ht, e]
  unfold matN at e2
  rw [zdd_ (by omega)] at e2
  cases e2
  have := hg t (by omega)
  simp [zti_]
  omega
 ·rw [show (matN (R * C) g).length = R * C from zF_ _ _]
  simp
theorem zty_ {N : Nat} {f g : Nat → Nat} (h : ∀ t, t < N → f t = g t) : matN N f = matN N g := zaj_ fun t ht => by rw [h t ht]
def invU (n : Nat) (a : Nat → Nat) : Nat → Nat := (zt_ n n n n 0 0 a (oneN n)).2.2
theorem ziA_ {n : Nat} {a : Nat → Nat} (h1 : 1 ≤ n) (h2 : n ≤ 255) (ha : El (n * n) a) : invP n n (matN (n * n) a) = if rk n n a = n then (((n : Int), (n : Int), matN (n * n) (invU n a)), 0) else noM 40 := by
 unfold invP
 rw [if_neg (fun h => h (zqA_ h1 h2 h1 h2 ha)), if_neg (fun h => h rfl)]
 simp only [Int.toNat_natCast]
 have sc := zug_ (R := n) h1 h1 n 0 0 (g := zI_ (matN (n * n) a)) (g' := a) (u := oneN n) (u' := oneN n) (by omega) (by omega) (fun t ht => zWg_ ht) (fun _ _ => rfl)
 have e := zfD_ (R := n) (C := n) n a (oneN n)
 rw [sc.1, e]
 have hle : rk n n a ≤ n := zbB_
 by_cases c : rk n n a = n
 ·rw [if_neg (by omega), if_pos c]
  unfold invU
  rw [zty_ fun t ht => sc.2.2 t ht]
 ·rw [if_pos (by omega), if_neg c]
theorem zFu_ {n : Nat} {a : Nat → Nat} (hn : 0 < n) (ha : El (n * n) a) : El (n * n) (invU n a) := by
 obtain ⟨T, T', p, j, _, _, _, _, h4, _⟩ := zRs_ (C := n) hn n 0 0 a (oneN n) (fun k => k) (by omega) ha (zpA_ n) ⟨by omega, by omega, fun k hk => by omega, fun i _ _ c hc => by omega, fun _ k hk => by omega⟩
 exact h4
structure MV (sb fb : Nat) (h : AHeap) (b R C : Nat) (s : Slc) (g : Nat → Nat) : Prop where
 cel : h.get b = some (.cells (zg_ R C s) 84 true 0)
 lt : b < h.next
 nf : b ≠ fb
 inm : InM h s (matN (R * C) g)
 ap : ∀ a, s.a = some a → a.block ≠ sb ∧ a.block ≠ fb
 r1 : 1 ≤ R
 r2 : R ≤ 255
 c1 : 1 ≤ C
 c2 : C ≤ 255
 el : El (R * C) g
section
variable {k0 : Nat} {sb fb : Nat} {h h' : AHeap} {b b2 R C C2 n : Nat} {s s2 : Slc} {f g : Nat → Nat}
theorem MV.chg (m : MV sb fb h b R C s g) (c : Chg (· = fb) h h') : MV sb fb h' b R C s g :=
 ⟨by rw [c.oth _ m.lt m.nf]; exact m.cel, Nat.lt_of_lt_of_le m.lt c.nx, m.nf, m.inm.chg c fun a ha => (m.ap a ha).2, m.ap, m.r1, m.r2, m.c1, m.c2, m.el⟩
theorem MV.keeps (m : MV sb fb h b R C s g) (c : zb_ h h') : MV sb fb h' b R C s g := m.chg (Chg.keeps c)
theorem MV.len (m : MV sb fb h b R C s g) : (matN (R * C) g).length ≤ 100000 := by
 rw [show (matN (R * C) g).length = R * C from zF_ _ _]
 exact Nat.le_trans (Nat.mul_le_mul m.r2 m.c2) (by omega)
theorem MV.put {h1 : AHeap} {X : (Int × Int × Slc) × Int} {p : MRes} (S : Spc h sb fb) (O : Out h h1 X p) (c1 : Chg (· = fb) h h1) (S1 : Spc h1 sb fb) (hp : p = (((R : Int), (C : Int), matN (R * C) g), 0)) (r1 : 1 ≤ R) (r2 : R ≤ 255) (q1 : 1 ≤ C) (q2 : C ≤ 255) (el : El (R * C) g) :
  ∃ h2 s', X = (((R : Int), (C : Int), s'), 0) ∧ stL 3 ⟨h1.next, 0, none⟩ (zg_ R C s') (h1.new (.cells [.int .i64 0, .int .i64 0, .slice none 0 0] 84 true 0)) = some h2 ∧ MV sb fb h2 h1.next R C s' g ∧ Spc h2 sb fb ∧ Chg (· = fb) h h2 := by
 obtain ⟨⟨r, c, s'⟩, code⟩ := X
 subst hp
 obtain rfl : r = (R : Int) := O.r
 obtain rfl : c = (C : Int) := O.c
 obtain rfl : code = 0 := O.code
 obtain ⟨h2, st2, k2, n2, b2⟩ := mvar (h := h1) (e := 84) (r := (R : Int)) (c := (C : Int)) (s := s')
 have ls := S.ls
 have lf := S.lf
 have nx := c1.nx
 exact ⟨h2, s', rfl, st2, ⟨b2, by omega, by omega, O.inm.keeps k2, fun a ha => by have := O.off a ha; exact ⟨by omega, by omega⟩, r1, r2, q1, q2, el⟩, S1.keeps k2, c1.trans (Chg.keeps k2)⟩
end
end Gz
namespace Gz
open Go Gx Go.Proofs Fe
end Gz
namespace Gz
open Go Gx Go.Proofs Fe
section
variable {k0 : Nat} {H0 : AHeap} {base N K : Nat}
end
theorem zpy_ {R C : Nat} {a : Nat → Nat} {rows : List Int} (h1 : 1 ≤ R) (h2 : R ≤ 255) (h3 : 1 ≤ C) (h4 : C ≤ 255) (ha : El (R * C) a) (r1 : 1 ≤ rows.length) (r2 : rows.length ≤ 255) (ok : rows.all (okR R) = true) :
  zNg_ R C (matN (R * C) a) rows = (((rows.length : Int), (C : Int), matN (rows.length * C) (zeb_ C a (zI_ rows))), 0) := by
 unfold zNg_
 rw [if_neg (fun h => h (zqA_ h1 h2 h3 h4 ha)), if_neg (by omega), if_pos (show rows.all (okR (R : Int).toNat) = true from ok)]
 simp only [Int.toNat_natCast]
 rw [zty_ fun t ht => ?_]
 have hd := (Nat.div_lt_iff_lt_mul h3).2 ht
 have hm := Nat.mod_lt t h3
 unfold zeb_
 exact zWg_ (zQb_ (zMl_ ok hd).2 hm)
end Gz
namespace Gz
open Go Gx Go.Proofs
theorem ztG_ {k0 : Nat} {D : za_} {H0 : AHeap} {B ob n : Nat} (hn1 : 0 < n) (hR : n ≤ 255) (y : Option Addr) : ∀ (m i : Nat) (h : AHeap), i + m = n →
  h.get B = some (outB encI 3 (mat (n * n) (oneP n i))) → h.get ob = some (.cells (zg_ n n (zk_ B (n * n))) 97 true 0) → B ≠ ob → Chg (· = B) H0 h →
  ∃ h', h'.get B = some (outB encI 3 (mat (n * n) (oneF n))) ∧ h'.get ob = some (.cells (zg_ n n (zk_ B (n * n))) 97 true 0) ∧ Chg (· = B) H0 h' ∧ h'.next = h.next ∧
   ∀ jj bot, zh_ bot (m + 1) (zqf_ k0 D jj) (n : Int) y (some ⟨ob, 0, none⟩) (i : Int) h = jj y (some ⟨ob, 0, none⟩) h' := by
 intro m
 induction m with
 | zero =>
  intro i h hi hb ho hne hc
  obtain rfl : i = n := by omega
  refine ⟨h, ?_, ho, hc, rfl, fun jj bot => by rw [ze_, zqf_]; exact ifn (by simp) rfl⟩
  rw [hb, zYb_ (g := oneF i) (fun t ht => by
   have : t / i < i := (Nat.div_lt_iff_lt_mul hn1).2 ht
   unfold oneP; rw [if_pos this])]
 | succ m ih =>
  intro i h hi hb ho hne hc
  have hi' : i < n := by omega
  have hN : n * n ≤ 100000 := Nat.le_trans (Nat.mul_le_mul hR hR) (by omega)
  have le : (i + 1) * n ≤ n * n := Nat.mul_le_mul_right n (by omega)
  have e0 : (i + 1) * n = i * n + n := Nat.succ_mul i n
  have hpos : i * n + i < n * n := by omega
  obtain ⟨h', b', o', c', n', e'⟩ := ih (i + 1) (h.set B (outB encI 3 (mat (n * n) (upd (oneP n i) (i * n + i) 1)))) (by omega)
   (by rw [zYb_ (fun t _ => (zRw_ hi' t).symm)]; simp) (by rw [AHeap.get_set, if_neg (fun e => hne e.symm)]; exact ho) hne (hc.trans (Chg.set (.inr rfl)))
  refine ⟨h', b', o', c', n', fun jj bot => ?_⟩
  rw [ze_, zqf_]
  refine ifp (by rw [decide_eq_true_eq]; omega) ?_
  have w2 : IntKind.wrap .i64 ((i : Int) * (n : Int)) = ((i * n : Nat) : Int) := by
   rw [show (i : Int) * (n : Int) = ((i * n : Nat) : Int) by simp]
   exact w64 _ (by omega)
  have w3 : IntKind.wrap .i64 (((i * n : Nat) : Int) + (i : Int)) = ((i * n + i : Nat) : Int) := by rw [w64 _ (by omega)]; omega
  refine bnd rfl (bnd (ldL2 ho) ?_)
  rw [w2, w3]
  refine bnd (zpl_ hpos) ?_
  refine bnd (zoi_ _ hb hpos) ?_
  rw [w1 (by omega)]
  exact e' jj bot
theorem zoD_ {k0 : Nat} (hk : 1000 ≤ k0) (D : za_) {h : AHeap} {n : Nat} (hn1 : 0 < n) (hR : n ≤ 255) :
  ∃ h' B, zQi_ k0 D n h = some ((((n : Int), (n : Int), zk_ B (n * n)), 0), h') ∧ MadeR h h' B (n * n) (oneF n) := by
 obtain ⟨g1, hg1⟩ : ∃ g1, g1 = h.new (.cells [.int .i64 0, .int .i64 0, .slice none 0 0] 97 true 0) := ⟨_, rfl⟩
 have k1 : zb_ h g1 := hg1 ▸ zb_.new h _
 have n1 : g1.next = h.next + 1 := by rw [hg1]; rfl
 have y1 : g1.get h.next = some (.cells [.int .i64 0, .int .i64 0, .slice none 0 0] 97 true 0) := by rw [hg1]; simp
 have hN : n * n ≤ 100000 := Nat.le_trans (Nat.mul_le_mul hR hR) (by omega)
 obtain ⟨g2, e2, k2, n2, b2⟩ := zYp_ k0 D n n g1 hN
 obtain ⟨g3, hg3⟩ : ∃ g3, g3 = g2.new (.cells [.int .i64 0, .int .i64 0, .slice none 0 0] 97 true 0) := ⟨_, rfl⟩
 have k3 : zb_ g2 g3 := hg3 ▸ zb_.new g2 _
 have n3 : g3.next = g2.next + 1 := by rw [hg3]; rfl
 have o3 : g3.get g2.next = some (.cells [.int .i64 0, .int .i64 0, .slice none 0 0] 97 true 0) := by rw [hg3]; simp
 obtain ⟨g4, hg4⟩ : ∃ g4, g4 = g3.set g2.next (.cells (zg_ n n (zk_ (g1.next + 1) (n * n))) 97 true 0) := ⟨_, rfl⟩
 have n4 : g4.next = g3.next := by rw [hg4]; rfl
 have st3 : stL 3 ⟨g2.next, 0, none⟩ (zg_ n n (zk_ (g1.next + 1) (n * n))) g3 = some g4 := by rw [hg4]; exact stM3 o3 rfl
 have k04 : zb_ h g4 := ((k1.trans k2).trans k3).beh (T := (· = g2.next)) (hg4 ▸ Chg.set (.inr rfl)) fun x hx e => by
  have e : x = g2.next := e
  omega
 have b4 : g4.get (g1.next + 1) = some (outB encI 3 (mat (n * n) fun _ => 0)) := by
  rw [hg4, AHeap.get_set, if_neg (by omega), k3.oth _ (by omega) (fun f => f)]; exact b2
 have y4 : g4.get h.next = some (.cells [.int .i64 0, .int .i64 0, .slice none 0 0] 97 true 0) := by
  rw [hg4, AHeap.get_set, if_neg (by omega), k3.oth _ (by omega) (fun f => f), k2.oth _ (by omega) (fun f => f)]; exact y1
 obtain ⟨g5, b5, o5, c5, n5, e5⟩ := ztG_ (k0 := k0) (D := D) (H0 := g4) (B := g1.next + 1) (ob := g2.next) hn1 hR (some ⟨h.next, 0, none⟩) n 0 g4 (by omega)
  (by rw [zYb_ (g := fun _ => 0) (fun t ht => by unfold oneP; rw [if_neg (Nat.not_lt_zero _)])]; exact b4) (by rw [hg4]; simp) (by omega) (.refl _ _)
 have y5 : g5.get h.next = some (.cells [.int .i64 0, .int .i64 0, .slice none 0 0] 97 true 0) := by
  rw [c5.oth h.next (by omega) (by omega)]; exact y4
 refine ⟨g5.set h.next (.cells (zg_ n n (zk_ (g1.next + 1) (n * n))) 97 true 0), g1.next + 1, ?_, ?_⟩
 ·unfold zQi_
  dsimp only
  rw [← hg1]
  refine jn ?_
  refine ifn (by rw [decide_eq_true_eq]; omega) ?_
  refine ifn (by rw [decide_eq_true_eq]; omega) ?_
  refine bnd e2 ?_
  dsimp only
  rw [← hg3]
  refine bnd st3 ?_
  refine jn ?_
  unfold zjp_
  obtain ⟨bot, hbot⟩ := zp_ (fun _ _ _ _ _ => none) (zqf_ k0 D _) (show n + 1 ≤ k0 by omega)
  rw [hbot]
  refine (e5 _ bot).trans ?_
  refine bnd rfl (bnd (ldM3 o5) (bnd (zm_ _ _ _) ?_))
  refine bnd rfl ?_
  refine bnd (stM3 (r := n) (c := n) (s := zk_ (g1.next + 1) (n * n)) y5 rfl) ?_
  refine bnd rfl ?_
  refine bnd (ldM3 (r := n) (c := n) (s := zk_ (g1.next + 1) (n * n)) (e := 97) (rw' := true) (fz := 0) (by simp)) ?_
  exact bnd (zm_ _ _ _) rfl
 ·refine ⟨by rw [AHeap.get_set, if_neg (by omega)]; exact b5, by simp; omega, by omega, ?_⟩
  have c1 : zb_ h g5 := k04.beh c5 fun x hx e => by omega
  exact c1.beh (T := (· = h.next)) (.set (.inr rfl)) fun x hx e => by
   have e : x = h.next := e
   omega
theorem zkv_ (K : Nat) (D : za_) (j) {s : Slc} {xs : List Int} {h : AHeap} {r c : Int} {ob : Nat} (b : h.get ob = some (.cells (zg_ r c s) 97 true 0)) (R : Row encI h s xs) (hl : xs.length < 9223372036854775807) : ∀ (m i : Nat), i + m = xs.length → ∀ bot,
  zh_ bot (m + 1) (zce_ K D j) (some ⟨ob, 0, none⟩) (i : Int) h = if (xs.drop i).all zti_ = true then j h else some (1, h)
 | 0, i, hi, bot => by
  rw [ze_, zce_]
  refine bnd rfl (bnd (ldL2 b) ?_)
  refine ifn (by rw [decide_eq_true_eq, R.1]; omega) ?_
  rw [List.drop_eq_nil_of_le (by omega)]
  rfl
 | m + 1, i, hi, bot => by
  obtain ⟨x, hx⟩ := zy_ (l := xs) (i := i) (by omega)
  obtain ⟨q, hq, hld⟩ := R.ldI hx
  have ih := zkv_ K D j b R hl m (i + 1) (by omega) bot
  rw [ze_, zce_]
  refine bnd rfl (bnd (ldL2 b) ?_)
  refine ifp (by rw [decide_eq_true_eq, R.1]; omega) (jn ?_)
  refine bnd rfl (bnd (ldL2 b) (bnd hq (bnd hld ?_)))
  rw [zHh_ hx]
  simp only [List.all_cons, zti_]
  by_cases c1 : x < 0
  ·refine ifp (by rw [decide_eq_true_eq]; exact c1) (ifp trivial ?_)
   simp [c1]
  ·refine ifn (by rw [decide_eq_true_eq]; exact c1) ?_
   refine bnd rfl (bnd (ldL2 b) (bnd hq (bnd hld ?_)))
   by_cases c2 : x ≥ 256
   ·refine ifp (by rw [decide_eq_true_eq]; omega) ?_
    simp [c1, c2]
   ·refine ifn (by rw [decide_eq_true_eq]; omega) ?_
    rw [w1 (by omega), ih]
    simp [c1, c2, zti_]
theorem zop_ {k0 : Nat} (D : za_) {h : AHeap} {r c : Int} {s : Slc} {xs : List Int} (R : Row encI h s xs) (hk : xs.length < k0) (hl : xs.length < 9223372036854775807) :
  ∃ h', zwf_ k0 D (r, c, s) h = some (chk r c xs, h') ∧ zb_ h h' := by
 obtain ⟨g1, hg1⟩ : ∃ g1, g1 = h.new (.cells [.int .i64 r, .int .i64 c, .slice s.a s.len s.cap] 97 true 0) := ⟨_, rfl⟩
 have k1 : zb_ h g1 := hg1 ▸ zb_.new h _
 have b1 : g1.get h.next = some (.cells (zg_ r c s) 97 true 0) := by rw [hg1]; simp [zg_]
 refine ⟨g1, ?_, k1⟩
 unfold zwf_
 dsimp only
 rw [← hg1]
 refine jn ?_
 have i0 := ldI0 (sp := none) b1
 have i1 := ldI1 (sp := none) b1
 have i2 := ldL2 (sp := none) b1
 unfold chk
 have fin : r ≥ 1 → c ≥ 1 → r ≤ 255 → c ≤ 255 → ((some (⟨h.next, 0, none⟩ : Addr)).bind fun p6 =>
   (ldL (⟨p6.block, p6.off + 2, none⟩ : Addr) g1).bind fun x7 => (some (⟨h.next, 0, none⟩ : Addr)).bind fun p8 => (ldI .i64 (⟨p8.block, p8.off + 0, none⟩ : Addr) g1).bind fun x9 =>
   (some (⟨h.next, 0, none⟩ : Addr)).bind fun p10 => (ldI .i64 (⟨p10.block, p10.off + 1, none⟩ : Addr) g1).bind fun x11 =>
   (if ((x7.len : Int) != (IntKind.wrap .i64 (x9 * x11))) = true then some (4, g1) else
   zn_ (fun (h12 : AHeap) => some (0, h12)) fun j13 => zhi_ k0 D j13 (some (⟨h.next, 0, none⟩ : Addr)) 0 g1)) =
   some (if (xs.length : Int) ≠ r * c then 4 else if xs.all zti_ then 0 else 1, g1) := fun a1 a2 a3 a4 => by
  refine bnd rfl (bnd i2 (bnd rfl (bnd i0 (bnd rfl (bnd i1 ?_)))))
  have m1 : r * c ≤ 255 * 255 := Int.mul_le_mul a3 a4 (by omega) (by omega)
  have m2 : 0 ≤ r * c := Int.mul_nonneg (by omega) (by omega)
  rw [w64 _ (by omega), R.1]
  by_cases e : (xs.length : Int) = r * c
  ·refine ifn (by simp [e]) ?_
   refine jn ?_
   unfold zhi_
   obtain ⟨bot, hbot⟩ := zp_ (fun _ _ _ => none) (zce_ k0 D _) (show xs.length + 1 ≤ k0 by omega)
   rw [hbot]
   refine (zkv_ k0 D _ b1 (R.keeps k1) hl xs.length 0 (by omega) bot).trans ?_
   rw [List.drop_zero, if_neg (show ¬ ((xs.length : Int) ≠ r * c) from fun x => x e)]
   split <;> rfl
  ·refine ifp (by simpa using e) ?_
   rw [if_pos e]
 refine bnd i0 ?_
 by_cases a1 : r < 1
 ·refine ifp (by rw [decide_eq_true_eq]; omega) (ifp rfl ?_)
  rw [if_pos (.inl a1)]
 ·refine ifn (by rw [decide_eq_true_eq]; omega) (bnd i0 ?_)
  by_cases a3 : r > 255
  ·refine ifp (by rw [decide_eq_true_eq]; omega) (ifp rfl ?_)
   rw [if_pos (.inr (.inr (.inl a3)))]
  ·refine ifn (by rw [decide_eq_true_eq]; omega) (bnd i1 ?_)
   by_cases a2 : c < 1
   ·refine ifp (by rw [decide_eq_true_eq]; omega) (ifp rfl ?_)
    rw [if_pos (.inr (.inl a2))]
   ·refine ifn (by rw [decide_eq_true_eq]; omega) (bnd i1 ?_)
    by_cases a4 : c > 255
    ·refine ifp (by rw [decide_eq_true_eq]; omega) ?_
     rw [if_pos (.inr (.inr (.inr a4)))]
    ·refine ifn (by rw [decide_eq_true_eq]; omega) ?_
     rw [if_neg (by omega)]
     exact fin (by omega) (by omega) (by omega) (by omega)
theorem zYx_ (k : Nat) (D : za_) {h : AHeap} {s : Slc} {xs : List Int} (R : Row encI h s xs) {r : Int} {C i j : Nat} {x : Int} (hx : xs[i * C + j]? = some x) (hb : i * C + j < 9223372036854775807) :
  ∃ h', zY_ k D (r, (C : Int), s) (i : Int) (j : Int) h = some (x, h') ∧ zb_ h h' := by
 obtain ⟨g1, hg1⟩ : ∃ g1, g1 = h.new (.cells [.int .i64 r, .int .i64 C, .slice s.a s.len s.cap] 97 true 0) := ⟨_, rfl⟩
 have k1 : zb_ h g1 := hg1 ▸ zb_.new h _
 have b1 : g1.get h.next = some (.cells (zg_ r C s) 97 true 0) := by rw [hg1]; simp [zg_]
 obtain ⟨q, hq, hld⟩ := (R.keeps k1).ldI hx
 refine ⟨g1, ?_, k1⟩
 unfold zY_
 dsimp only
 rw [← hg1]
 with_reducible repeat' first | refine sbn ?_ | refine bnd (ldM3 (by assumption)) ?_ | refine bnd (zm_ _ _ _) ?_ | refine bnd (ldI0 (by assumption)) ?_ | refine bnd (ldI1 (by assumption)) ?_ | refine bnd (ldL2 (by assumption)) ?_ | refine jn ?_ | refine gp1 ?_ ?_ | refine gp2 ?_ ?_ ?_ | refine gp3 ?_ ?_ ?_ ?_ | refine bnd (ldZ0 (by assumption)) ?_ | refine bnd (ldZ1 (by assumption)) ?_ | refine bnd (ldZ2 (by assumption)) ?_ | rfl
 rw [wij hb]
 exact bnd hq (bnd hld rfl)
section
variable {H0 : AHeap} {B ob R C : Nat} {sp : Option Nat} {g g' : Nat → Nat} {h h' : AHeap}
theorem SI.at (s : SI H0 B ob R C sp g h) (k : Nat) (D : za_) {i j : Nat} (hi : i < R) (hj : j < C) (hs : R * C ≤ 100000) :
  ∃ h', zY_ k D (R, C, zk_ B (R * C) sp) (i : Int) (j : Int) h = some ((g (i * C + j) : Int), h') ∧ SI H0 B ob R C sp g h' ∧ zb_ h h' := by
 have := zQ_ (c := C) hi
 obtain ⟨h', e, k'⟩ := zYx_ k D (r := R) (C := C) (i := i) (j := j) (s.m.row (sp := sp)) (by unfold matN; exact zdd_ (by omega)) (by omega)
 exact ⟨h', e, s.keeps k', k'⟩
end
theorem zqr_ {k0 : Nat} (hk : 1000 ≤ k0) (D : za_) {h : AHeap} {B R C i k : Nat} {sp : Option Nat} {g : Nat → Nat} (m : Mx h B (R * C) g) (hc0 : 0 < C) (hc : C ≤ 255) (hs : R * C ≤ 100000) (hi : i < R) (hk' : k < R) :
  ∃ h', zGe_ k0 D (R, C, zk_ B (R * C) sp) i k h = some ((), h') ∧ Mx h' B (R * C) (zE_ C i k g) ∧ Chg (· = B) h h' := by
 have pi := zQ_ (c := C) hi
 have pk := zQ_ (c := C) hk'
 have go : ∀ m' j (h3 : AHeap), j + m' = C → SI h B h.next R C sp (zWe_ C i k j g) h3 → ∃ h', SI h B h.next R C sp (zE_ C i k g) h' ∧ ∀ bot, zh_ bot (m' + 1) (zmd_ k0 D) (i : Int) (k : Int) (some ⟨h.next, 0, none⟩) (j : Int) h3 = some ((), h') := by
  intro m'
  induction m' with
  | zero =>
   intro j h3 hj S
   obtain rfl : j = C := by omega
   refine ⟨h3, S.congr fun t _ => zPv_ hc0 g t, fun bot => ?_⟩
   have c0 := S.c
   rw [ze_, zmd_]
   with_reducible repeat' first | refine sbn ?_ | refine bnd (ldM3 (by assumption)) ?_ | refine bnd (zm_ _ _ _) ?_ | refine bnd (ldI0 (by assumption)) ?_ | refine bnd (ldI1 (by assumption)) ?_ | refine bnd (ldL2 (by assumption)) ?_ | refine jn ?_ | refine gp1 ?_ ?_ | refine gp2 ?_ ?_ ?_ | refine gp3 ?_ ?_ ?_ ?_ | refine bnd (ldZ0 (by assumption)) ?_ | refine bnd (ldZ1 (by assumption)) ?_ | refine bnd (ldZ2 (by assumption)) ?_ | rfl
   exact ifn (by rw [decide_eq_true_eq]; omega) rfl
  | succ m' ih =>
   intro j h3 hj S
   have hj' : j < C := by omega
   obtain ⟨h4, e4, S4, _⟩ := S.at k0 D hi hj' hs
   obtain ⟨h5, e5, S5, _⟩ := S4.at k0 D hk' hj' hs
   rw [zrA_ hj'] at e4
   rw [zDA_ hj'] at e5
   obtain ⟨h6, e6, S6⟩ := S5.wr (show i * C + j < R * C by omega) (m.el (k * C + j) (by omega))
   obtain ⟨h7, e7, S7⟩ := S6.wr (show k * C + j < R * C by omega) (m.el (i * C + j) (by omega))
   obtain ⟨h', S', e'⟩ := ih (j + 1) h7 (by omega) (S7.congr fun t _ => zlv_ hj' g)
   refine ⟨h', S', fun bot => ?_⟩
   have c0 := S.c
   have c4 := S4.c
   have c5 := S5.c
   have c6 := S6.c
   rw [ze_, zmd_]
   with_reducible repeat' first | refine sbn ?_ | refine bnd (ldM3 (by assumption)) ?_ | refine bnd (zm_ _ _ _) ?_ | refine bnd (ldI0 (by assumption)) ?_ | refine bnd (ldI1 (by assumption)) ?_ | refine bnd (ldL2 (by assumption)) ?_ | refine jn ?_ | refine gp1 ?_ ?_ | refine gp2 ?_ ?_ ?_ | refine gp3 ?_ ?_ ?_ ?_ | refine bnd (ldZ0 (by assumption)) ?_ | refine bnd (ldZ1 (by assumption)) ?_ | refine bnd (ldZ2 (by assumption)) ?_ | rfl
   refine ifp (by rw [decide_eq_true_eq]; omega) ?_
   with_reducible repeat' first | refine sbn ?_ | refine bnd (ldM3 (by assumption)) ?_ | refine bnd (zm_ _ _ _) ?_ | refine bnd (ldI0 (by assumption)) ?_ | refine bnd (ldI1 (by assumption)) ?_ | refine bnd (ldL2 (by assumption)) ?_ | refine jn ?_ | refine gp1 ?_ ?_ | refine gp2 ?_ ?_ ?_ | refine gp3 ?_ ?_ ?_ ?_ | refine bnd (ldZ0 (by assumption)) ?_ | refine bnd (ldZ1 (by assumption)) ?_ | refine bnd (ldZ2 (by assumption)) ?_ | rfl
   refine bnd e4 ?_
   with_reducible repeat' first | refine sbn ?_ | refine bnd (ldM3 (by assumption)) ?_ | refine bnd (zm_ _ _ _) ?_ | refine bnd (ldI0 (by assumption)) ?_ | refine bnd (ldI1 (by assumption)) ?_ | refine bnd (ldL2 (by assumption)) ?_ | refine jn ?_ | refine gp1 ?_ ?_ | refine gp2 ?_ ?_ ?_ | refine gp3 ?_ ?_ ?_ ?_ | refine bnd (ldZ0 (by assumption)) ?_ | refine bnd (ldZ1 (by assumption)) ?_ | refine bnd (ldZ2 (by assumption)) ?_ | rfl
   refine bnd e5 ?_
   with_reducible repeat' first | refine sbn ?_ | refine bnd (ldM3 (by assumption)) ?_ | refine bnd (zm_ _ _ _) ?_ | refine bnd (ldI0 (by assumption)) ?_ | refine bnd (ldI1 (by assumption)) ?_ | refine bnd (ldL2 (by assumption)) ?_ | refine jn ?_ | refine gp1 ?_ ?_ | refine gp2 ?_ ?_ ?_ | refine gp3 ?_ ?_ ?_ ?_ | refine bnd (ldZ0 (by assumption)) ?_ | refine bnd (ldZ1 (by assumption)) ?_ | refine bnd (ldZ2 (by assumption)) ?_ | rfl
   refine bnd (widx (C := C) (i := i) (show i * C + j < R * C by omega) hs) (bnd e6 ?_)
   with_reducible repeat' first | refine sbn ?_ | refine bnd (ldM3 (by assumption)) ?_ | refine bnd (zm_ _ _ _) ?_ | refine bnd (ldI0 (by assumption)) ?_ | refine bnd (ldI1 (by assumption)) ?_ | refine bnd (ldL2 (by assumption)) ?_ | refine jn ?_ | refine gp1 ?_ ?_ | refine gp2 ?_ ?_ ?_ | refine gp3 ?_ ?_ ?_ ?_ | refine bnd (ldZ0 (by assumption)) ?_ | refine bnd (ldZ1 (by assumption)) ?_ | refine bnd (ldZ2 (by assumption)) ?_ | rfl
   refine bnd (widx (C := C) (i := k) (show k * C + j < R * C by omega) hs) (bnd e7 ?_)
   rw [w1 (by omega)]
   exact e' bot
 obtain ⟨g1, hg1, S1⟩ := SI.mk0 (sp := sp) m
 obtain ⟨h', S', e'⟩ := go C 0 g1 (by omega) (S1.congr fun t _ => by unfold zWe_; rw [if_neg (by omega)])
 refine ⟨h', ?_, S'.m, S'.ch⟩
 unfold zGe_
 show zoh_ k0 D i k _ 0 (h.new (.cells (zg_ R C (zk_ B (R * C) sp)) 97 true 0)) = _
 rw [← hg1]
 unfold zoh_
 obtain ⟨bot, hbot⟩ := zp_ (fun _ _ _ _ _ => none) (zmd_ k0 D) (show C + 1 ≤ k0 by omega)
 rw [hbot]
 exact e' bot
theorem zXp_ {k0 : Nat} (hk : 1000 ≤ k0) (D : za_) {h : AHeap} {B R C i by' : Nat} {sp : Option Nat} {g : Nat → Nat} (m : Mx h B (R * C) g) (hc0 : 0 < C) (hc : C ≤ 255) (hs : R * C ≤ 100000) (hi : i < R) (hb : by' < 256) :
  ∃ h', zNd_ k0 D (R, C, zk_ B (R * C) sp) i (by' : Int) h = some ((), h') ∧ Mx h' B (R * C) (sclR C i by' g) ∧ Chg (· = B) h h' := by
 have pi := zQ_ (c := C) hi
 have go : ∀ m' j (h3 : AHeap), j + m' = C → SI h B h.next R C sp (fun t => if t / C = i ∧ t % C < j then mulT (g t) by' else g t) h3 → ∃ h', SI h B h.next R C sp (sclR C i by' g) h' ∧ ∀ bot, zh_ bot (m' + 1) (zLc_ k0 D) (i : Int) (by' : Int) (some ⟨h.next, 0, none⟩) (j : Int) h3 = some ((), h') := by
  intro m'
  induction m' with
  | zero =>
   intro j h3 hj S
   obtain rfl : j = C := by omega
   refine ⟨h3, S.congr fun t _ => ?_, fun bot => ?_⟩
   ·unfold sclR
    have : t % j < j := Nat.mod_lt _ (by omega)
    by_cases d : t / j = i
    ·rw [if_pos ⟨d, this⟩, if_pos d]
    ·rw [if_neg (fun h => d h.1), if_neg d]
   have c0 := S.c
   rw [ze_, zLc_]
   with_reducible repeat' first | refine sbn ?_ | refine bnd (ldM3 (by assumption)) ?_ | refine bnd (zm_ _ _ _) ?_ | refine bnd (ldI0 (by assumption)) ?_ | refine bnd (ldI1 (by assumption)) ?_ | refine bnd (ldL2 (by assumption)) ?_ | refine jn ?_ | refine gp1 ?_ ?_ | refine gp2 ?_ ?_ ?_ | refine gp3 ?_ ?_ ?_ ?_ | refine bnd (ldZ0 (by assumption)) ?_ | refine bnd (ldZ1 (by assumption)) ?_ | refine bnd (ldZ2 (by assumption)) ?_ | rfl
   exact ifn (by rw [decide_eq_true_eq]; omega) rfl
  | succ m' ih =>
   intro j h3 hj S
   have hj' : j < C := by omega
   obtain ⟨h4, e4, S4, _⟩ := S.at k0 D hi hj' hs
   rw [if_neg (fun h => by have := h.2; rw [zV_ hj'] at this; omega)] at e4
   have e5 := zvg_ (k := k0) (by omega) D (m.el (i * C + j) (by omega)) hb h4
   obtain ⟨h6, e6, S6⟩ := S4.wr (show i * C + j < R * C by omega) (zEc_ (g (i * C + j)) by')
   obtain ⟨h', S', e'⟩ := ih (j + 1) h6 (by omega) (S6.congr fun t _ => zCw_ (i := i) (t := t) hj' g (fun t => mulT (g t) by'))
   refine ⟨h', S', fun bot => ?_⟩
   have c0 := S.c
   have c4 := S4.c
   rw [ze_, zLc_]
   with_reducible repeat' first | refine sbn ?_ | refine bnd (ldM3 (by assumption)) ?_ | refine bnd (zm_ _ _ _) ?_ | refine bnd (ldI0 (by assumption)) ?_ | refine bnd (ldI1 (by assumption)) ?_ | refine bnd (ldL2 (by assumption)) ?_ | refine jn ?_ | refine gp1 ?_ ?_ | refine gp2 ?_ ?_ ?_ | refine gp3 ?_ ?_ ?_ ?_ | refine bnd (ldZ0 (by assumption)) ?_ | refine bnd (ldZ1 (by assumption)) ?_ | refine bnd (ldZ2 (by assumption)) ?_ | rfl
   refine ifp (by rw [decide_eq_true_eq]; omega) ?_
   with_reducible repeat' first | refine sbn ?_ | refine bnd (ldM3 (by assumption)) ?_ | refine bnd (zm_ _ _ _) ?_ | refine bnd (ldI0 (by assumption)) ?_ | refine bnd (ldI1 (by assumption)) ?_ | refine bnd (ldL2 (by assumption)) ?_ | refine jn ?_ | refine gp1 ?_ ?_ | refine gp2 ?_ ?_ ?_ | refine gp3 ?_ ?_ ?_ ?_ | refine bnd (ldZ0 (by assumption)) ?_ | refine bnd (ldZ1 (by assumption)) ?_ | refine bnd (ldZ2 (by assumption)) ?_ | rfl
   refine bnd e4 (bnd e5 ?_)
   with_reducible repeat' first | refine sbn ?_ | refine bnd (ldM3 (by assumption)) ?_ | refine bnd (zm_ _ _ _) ?_ | refine bnd (ldI0 (by assumption)) ?_ | refine bnd (ldI1 (by assumption)) ?_ | refine bnd (ldL2 (by assumption)) ?_ | refine jn ?_ | refine gp1 ?_ ?_ | refine gp2 ?_ ?_ ?_ | refine gp3 ?_ ?_ ?_ ?_ | refine bnd (ldZ0 (by assumption)) ?_ | refine bnd (ldZ1 (by assumption)) ?_ | refine bnd (ldZ2 (by assumption)) ?_ | rfl
   refine bnd (widx (C := C) (i := i) (show i * C + j < R * C by omega) hs) (bnd e6 ?_)
   rw [w1 (by omega)]
   exact e' bot
 obtain ⟨g1, hg1, S1⟩ := SI.mk0 (sp := sp) m
 obtain ⟨h', S', e'⟩ := go C 0 g1 (by omega) (S1.congr fun t _ => by rw [if_neg (fun h => by have := h.2; omega)])
 refine ⟨h', ?_, S'.m, S'.ch⟩
 unfold zNd_
 show zOg_ k0 D i by' _ 0 (h.new (.cells (zg_ R C (zk_ B (R * C) sp)) 97 true 0)) = _
 rw [← hg1]
 unfold zOg_
 obtain ⟨bot, hbot⟩ := zp_ (fun _ _ _ _ _ => none) (zLc_ k0 D) (show C + 1 ≤ k0 by omega)
 rw [hbot]
 exact e' bot
theorem zss_ {k0 : Nat} (hk : 1000 ≤ k0) (D : za_) {h : AHeap} {B R C i k by' : Nat} {sp : Option Nat} {g : Nat → Nat} (m : Mx h B (R * C) g) (hc0 : 0 < C) (hc : C ≤ 255) (hs : R * C ≤ 100000) (hi : i < R) (hk' : k < R) (hik : i ≠ k) (hb : by' < 256) :
  ∃ h', zsf_ k0 D (R, C, zk_ B (R * C) sp) i k (by' : Int) h = some ((), h') ∧ Mx h' B (R * C) (addR C i by' (fun x => g (k * C + x)) g) ∧ Chg (· = B) h h' := by
 have pi := zQ_ (c := C) hi
 have pk := zQ_ (c := C) hk'
 have go : ∀ m' j (h3 : AHeap), j + m' = C → SI h B h.next R C sp (addJ C i by' j (fun x => g (k * C + x)) g) h3 → ∃ h', SI h B h.next R C sp (addR C i by' (fun x => g (k * C + x)) g) h' ∧ ∀ bot, zh_ bot (m' + 1) (zje_ k0 D) (i : Int) (k : Int) (by' : Int) (some ⟨h.next, 0, none⟩) (j : Int) h3 = some ((), h') := by
  intro m'
  induction m' with
  | zero =>
   intro j h3 hj S
   obtain rfl : j = C := by omega
   refine ⟨h3, S.congr fun t _ => ?_, fun bot => ?_⟩
   ·unfold addJ addR
    have : t % j < j := Nat.mod_lt _ (by omega)
    by_cases d : t / j = i
    ·rw [if_pos ⟨d, this⟩, if_pos d]
    ·rw [if_neg (fun h => d h.1), if_neg d]
   have c0 := S.c
   rw [ze_, zje_]
   with_reducible repeat' first | refine sbn ?_ | refine bnd (ldM3 (by assumption)) ?_ | refine bnd (zm_ _ _ _) ?_ | refine bnd (ldI0 (by assumption)) ?_ | refine bnd (ldI1 (by assumption)) ?_ | refine bnd (ldL2 (by assumption)) ?_ | refine jn ?_ | refine gp1 ?_ ?_ | refine gp2 ?_ ?_ ?_ | refine gp3 ?_ ?_ ?_ ?_ | refine bnd (ldZ0 (by assumption)) ?_ | refine bnd (ldZ1 (by assumption)) ?_ | refine bnd (ldZ2 (by assumption)) ?_ | rfl
   exact ifn (by rw [decide_eq_true_eq]; omega) rfl
  | succ m' ih =>
   intro j h3 hj S
   have hj' : j < C := by omega
   obtain ⟨h4, e4, S4, _⟩ := S.at k0 D hi hj' hs
   obtain ⟨h5, e5, S5, _⟩ := S4.at k0 D hk' hj' hs
   have ge : addJ C i by' j (fun x => g (k * C + x)) g (i * C + j) = g (i * C + j) := by
    unfold addJ; rw [if_neg (fun h => by have := h.2; rw [zV_ hj'] at this; omega)]
   have gk : addJ C i by' j (fun x => g (k * C + x)) g (k * C + j) = g (k * C + j) := by
    unfold addJ; rw [zU_ hj', if_neg (fun h => hik h.1.symm)]
   rw [ge] at e4
   rw [gk] at e5
   have e6 := zvg_ (k := k0) (by omega) D (m.el (k * C + j) (by omega)) hb h5
   obtain ⟨h6, e7, S6⟩ := S5.wr (show i * C + j < R * C by omega) (zWs_ (b := g (k * C + j)) (c := by') (m.el (i * C + j) (by omega)))
   have new : ∀ t, t < R * C → updN (addJ C i by' j (fun x => g (k * C + x)) g) (i * C + j) (g (i * C + j) ^^^ mulT (g (k * C + j)) by') t = addJ C i by' (j + 1) (fun x => g (k * C + x)) g t := fun t _ => by
    have := zCw_ (i := i) (t := t) hj' g (fun t => g t ^^^ mulT (g (k * C + t % C)) by')
    rw [zV_ hj'] at this
    exact this
   obtain ⟨h', S', e'⟩ := ih (j + 1) h6 (by omega) (S6.congr new)
   refine ⟨h', S', fun bot => ?_⟩
   have c0 := S.c
   have c4 := S4.c
   have c5 := S5.c
   rw [ze_, zje_]
   with_reducible repeat' first | refine sbn ?_ | refine bnd (ldM3 (by assumption)) ?_ | refine bnd (zm_ _ _ _) ?_ | refine bnd (ldI0 (by assumption)) ?_ | refine bnd (ldI1 (by assumption)) ?_ | refine bnd (ldL2 (by assumption)) ?_ | refine jn ?_ | refine gp1 ?_ ?_ | refine gp2 ?_ ?_ ?_ | refine gp3 ?_ ?_ ?_ ?_ | refine bnd (ldZ0 (by assumption)) ?_ | refine bnd (ldZ1 (by assumption)) ?_ | refine bnd (ldZ2 (by assumption)) ?_ | rfl
   refine ifp (by rw [decide_eq_true_eq]; omega) ?_
   with_reducible repeat' first | refine sbn ?_ | refine bnd (ldM3 (by assumption)) ?_ | refine bnd (zm_ _ _ _) ?_ | refine bnd (ldI0 (by assumption)) ?_ | refine bnd (ldI1 (by assumption)) ?_ | refine bnd (ldL2 (by assumption)) ?_ | refine jn ?_ | refine gp1 ?_ ?_ | refine gp2 ?_ ?_ ?_ | refine gp3 ?_ ?_ ?_ ?_ | refine bnd (ldZ0 (by assumption)) ?_ | refine bnd (ldZ1 (by assumption)) ?_ | refine bnd (ldZ2 (by assumption)) ?_ | rfl
   refine bnd e4 ?_
   with_reducible repeat' first | refine sbn ?_ | refine bnd (ldM3 (by assumption)) ?_ | refine bnd (zm_ _ _ _) ?_ | refine bnd (ldI0 (by assumption)) ?_ | refine bnd (ldI1 (by assumption)) ?_ | refine bnd (ldL2 (by assumption)) ?_ | refine jn ?_ | refine gp1 ?_ ?_ | refine gp2 ?_ ?_ ?_ | refine gp3 ?_ ?_ ?_ ?_ | refine bnd (ldZ0 (by assumption)) ?_ | refine bnd (ldZ1 (by assumption)) ?_ | refine bnd (ldZ2 (by assumption)) ?_ | rfl
   refine bnd e5 (bnd e6 ?_)
   with_reducible repeat' first | refine sbn ?_ | refine bnd (ldM3 (by assumption)) ?_ | refine bnd (zm_ _ _ _) ?_ | refine bnd (ldI0 (by assumption)) ?_ | refine bnd (ldI1 (by assumption)) ?_ | refine bnd (ldL2 (by assumption)) ?_ | refine jn ?_ | refine gp1 ?_ ?_ | refine gp2 ?_ ?_ ?_ | refine gp3 ?_ ?_ ?_ ?_ | refine bnd (ldZ0 (by assumption)) ?_ | refine bnd (ldZ1 (by assumption)) ?_ | refine bnd (ldZ2 (by assumption)) ?_ | rfl
   refine bnd (widx (C := C) (i := i) (show i * C + j < R * C by omega) hs) ?_
   dsimp only
   rw [xor64' (m.el _ (by omega)) (zEc_ _ _)]
   refine bnd e7 ?_
   rw [w1 (by omega)]
   exact e' bot
 obtain ⟨g1, hg1, S1⟩ := SI.mk0 (sp := sp) m
 obtain ⟨h', S', e'⟩ := go C 0 g1 (by omega) (S1.congr fun t _ => by unfold addJ; rw [if_neg (fun h => by have := h.2; omega)])
 refine ⟨h', ?_, S'.m, S'.ch⟩
 unfold zsf_
 show zfi_ k0 D i k by' _ 0 (h.new (.cells (zg_ R C (zk_ B (R * C) sp)) 97 true 0)) = _
 rw [← hg1]
 unfold zfi_
 obtain ⟨bot, hbot⟩ := zp_ (fun _ _ _ _ _ _ => none) (zje_ k0 D) (show C + 1 ≤ k0 by omega)
 rw [hbot]
 exact e' bot
theorem zZy_ {k0 : Nat} (hk : 1000 ≤ k0) (D : za_) {h : AHeap} {B R C i j : Nat} {sp : Option Nat} {g : Nat → Nat} (m : Mx h B (R * C) g) (hj : j < C) (hR : R ≤ 255) (hs : R * C ≤ 100000) (hi : i ≤ R) :
  ∃ h', zFf_ k0 D (R, C, zk_ B (R * C) sp) i j h = some (if zdb_ C j g (R - i) i = R then -1 else (zdb_ C j g (R - i) i : Int), h') ∧ zb_ h h' := by
 have go : ∀ m' i (h3 : AHeap), i + m' = R → SI h B h.next R C sp g h3 → ∃ h', SI h B h.next R C sp g h' ∧ zb_ h3 h' ∧ ∀ J bot, zh_ bot (m' + 1) (zlc_ k0 D J) (j : Int) (some ⟨h.next, 0, none⟩) (i : Int) h3 = if zdb_ C j g m' i = R then J h' else some ((zdb_ C j g m' i : Int), h') := by
  intro m'
  induction m' with
  | zero =>
   intro i h3 hi S
   obtain rfl : i = R := by omega
   refine ⟨h3, S, .refl _ _, fun J bot => ?_⟩
   have c0 := S.c
   rw [ze_, zlc_]
   with_reducible repeat' first | refine sbn ?_ | refine bnd (ldM3 (by assumption)) ?_ | refine bnd (zm_ _ _ _) ?_ | refine bnd (ldI0 (by assumption)) ?_ | refine bnd (ldI1 (by assumption)) ?_ | refine bnd (ldL2 (by assumption)) ?_ | refine jn ?_ | refine gp1 ?_ ?_ | refine gp2 ?_ ?_ ?_ | refine gp3 ?_ ?_ ?_ ?_ | refine bnd (ldZ0 (by assumption)) ?_ | refine bnd (ldZ1 (by assumption)) ?_ | refine bnd (ldZ2 (by assumption)) ?_ | rfl
   refine ifn (by rw [decide_eq_true_eq]; omega) ?_
   rw [zdb_, if_pos rfl]
  | succ m' ih =>
   intro i h3 hi S
   have hi' : i < R := by omega
   obtain ⟨h4, e4, S4, k4⟩ := S.at k0 D hi' hj hs
   have c0 := S.c
   by_cases e : g (i * C + j) = 0
   ·obtain ⟨h', S', k', e'⟩ := ih (i + 1) h4 (by omega) S4
    refine ⟨h', S', k4.trans k', fun J bot => ?_⟩
    rw [ze_, zlc_]
    with_reducible repeat' first | refine sbn ?_ | refine bnd (ldM3 (by assumption)) ?_ | refine bnd (zm_ _ _ _) ?_ | refine bnd (ldI0 (by assumption)) ?_ | refine bnd (ldI1 (by assumption)) ?_ | refine bnd (ldL2 (by assumption)) ?_ | refine jn ?_ | refine gp1 ?_ ?_ | refine gp2 ?_ ?_ ?_ | refine gp3 ?_ ?_ ?_ ?_ | refine bnd (ldZ0 (by assumption)) ?_ | refine bnd (ldZ1 (by assumption)) ?_ | refine bnd (ldZ2 (by assumption)) ?_ | rfl
    refine ifp (by rw [decide_eq_true_eq]; omega) ?_
    with_reducible repeat' first | refine sbn ?_ | refine bnd (ldM3 (by assumption)) ?_ | refine bnd (zm_ _ _ _) ?_ | refine bnd (ldI0 (by assumption)) ?_ | refine bnd (ldI1 (by assumption)) ?_ | refine bnd (ldL2 (by assumption)) ?_ | refine jn ?_ | refine gp1 ?_ ?_ | refine gp2 ?_ ?_ ?_ | refine gp3 ?_ ?_ ?_ ?_ | refine bnd (ldZ0 (by assumption)) ?_ | refine bnd (ldZ1 (by assumption)) ?_ | refine bnd (ldZ2 (by assumption)) ?_ | rfl
    refine bnd e4 ?_
    refine ifn (by simp [e]) ?_
    rw [w1 (by omega), zdb_, if_pos e]
    exact e' J bot
   ·refine ⟨h4, S4, k4, fun J bot => ?_⟩
    rw [ze_, zlc_]
    with_reducible repeat' first | refine sbn ?_ | refine bnd (ldM3 (by assumption)) ?_ | refine bnd (zm_ _ _ _) ?_ | refine bnd (ldI0 (by assumption)) ?_ | refine bnd (ldI1 (by assumption)) ?_ | refine bnd (ldL2 (by assumption)) ?_ | refine jn ?_ | refine gp1 ?_ ?_ | refine gp2 ?_ ?_ ?_ | refine gp3 ?_ ?_ ?_ ?_ | refine bnd (ldZ0 (by assumption)) ?_ | refine bnd (ldZ1 (by assumption)) ?_ | refine bnd (ldZ2 (by assumption)) ?_ | rfl
    refine ifp (by rw [decide_eq_true_eq]; omega) ?_
    with_reducible repeat' first | refine sbn ?_ | refine bnd (ldM3 (by assumption)) ?_ | refine bnd (zm_ _ _ _) ?_ | refine bnd (ldI0 (by assumption)) ?_ | refine bnd (ldI1 (by assumption)) ?_ | refine bnd (ldL2 (by assumption)) ?_ | refine jn ?_ | refine gp1 ?_ ?_ | refine gp2 ?_ ?_ ?_ | refine gp3 ?_ ?_ ?_ ?_ | refine bnd (ldZ0 (by assumption)) ?_ | refine bnd (ldZ1 (by assumption)) ?_ | refine bnd (ldZ2 (by assumption)) ?_ | rfl
    refine bnd e4 ?_
    refine ifp (by simp; omega) ?_
    rw [zdb_, if_neg e, if_neg (by omega)]
 obtain ⟨g1, hg1, S1⟩ := SI.mk0 (sp := sp) m
 have k1 : zb_ h g1 := hg1 ▸ zb_.new h _
 obtain ⟨h', S', k', e'⟩ := go (R - i) i g1 (by omega) S1
 refine ⟨h', ?_, k1.trans k'⟩
 unfold zFf_
 refine jn ?_
 show zJh_ k0 D _ j _ i (h.new (.cells (zg_ R C (zk_ B (R * C) sp)) 97 true 0)) = _
 rw [← hg1]
 unfold zJh_
 obtain ⟨bot, hbot⟩ := zp_ (fun _ _ _ _ => none) (zlc_ k0 D _) (show R - i + 1 ≤ k0 by omega)
 rw [hbot]
 refine (e' _ bot).trans ?_
 split <;> rfl
theorem zMz_ {k0 : Nat} (D : za_) {h : AHeap} {R C N : Nat} {s : Slc} {g : Nat → Nat} (Rw : Row encI h s (matN N g)) (hN : N ≠ 0) (hl : N ≤ 100000) (he : ∀ t, t < N → g t < 256) :
  ∃ h' B', zDf_ k0 D (R, C, s) h = some (((R : Int), (C : Int), zk_ B' N (some 2)), h') ∧ zb_ h h' ∧ h.next ≤ B' ∧ Mx h' B' N g := by
 have hlen : (matN N g).length = N := zF_ N _
 obtain ⟨g1, hg1⟩ : ∃ g1, g1 = h.new (.cells [.int .i64 R, .int .i64 C, .slice s.a s.len s.cap] 97 true 0) := ⟨_, rfl⟩
 have k1 : zb_ h g1 := hg1 ▸ zb_.new h _
 have n1 : g1.next = h.next + 1 := by rw [hg1]; rfl
 obtain ⟨g2, hg2⟩ : ∃ g2, g2 = g1.new (.cells [.int .i64 0, .int .i64 0, .slice none 0 0] 97 true 0) := ⟨_, rfl⟩
 have k2 : zb_ g1 g2 := hg2 ▸ zb_.new g1 _
 have n2 : g2.next = g1.next + 1 := by rw [hg2]; rfl
 obtain ⟨g3, hg3⟩ : ∃ g3, g3 = g2.new (.cells [] 3 true 0) := ⟨_, rfl⟩
 have k3 : zb_ g2 g3 := hg3 ▸ zb_.new g2 _
 have n3 : g3.next = g2.next + 1 := by rw [hg3]; rfl
 obtain ⟨g4, hg4⟩ : ∃ g4, g4 = g3.new (outB encI 3 (matN N g)) := ⟨_, rfl⟩
 have k4 : zb_ g3 g4 := hg4 ▸ zb_.new g3 _
 have n4 : g4.next = g3.next + 1 := by rw [hg4]; rfl
 have b1 : g1.get h.next = some (.cells (zg_ R C s) 97 true 0) := by rw [hg1]; simp [zg_]
 have b2 : g2.get h.next = some (.cells (zg_ R C s) 97 true 0) := by rw [k2.oth _ (by omega) (fun f => f)]; exact b1
 have b3 : g3.get h.next = some (.cells (zg_ R C s) 97 true 0) := by rw [k3.oth _ (by omega) (fun f => f)]; exact b2
 have b4 : g4.get h.next = some (.cells (zg_ R C s) 97 true 0) := by rw [k4.oth _ (by omega) (fun f => f)]; exact b3
 have y4 : g4.get g1.next = some (.cells [.int .i64 0, .int .i64 0, .slice none 0 0] 97 true 0) := by rw [k4.oth _ (by omega) (fun f => f), k3.oth _ (by omega) (fun f => f), hg2]; simp
 have k13 := (k1.trans k2).trans k3
 have rd := Row.rdS (Rw.keeps k13)
 have sl : s.len = N := by rw [Rw.1, hlen]
 have ap := zIo_ (enc := encI) (bytes := 8) (e := 3) (h := g3) (b := g2.next) (xs := matN N g) (by omega) (by omega) (by omega)
 rw [hlen, ← hg4] at ap
 obtain ⟨g5, hg5⟩ : ∃ g5, g5 = g4.set g1.next (.cells (zg_ R C (zk_ g3.next N (some 2))) 97 true 0) := ⟨_, rfl⟩
 have st : stL 3 ⟨g1.next, 0, none⟩ (zg_ R C (zk_ g3.next N (some 2))) g4 = some g5 := by rw [hg5]; exact stM3 (cs := [.int .i64 0, .int .i64 0, .slice none 0 0]) (e := 97) y4 rfl
 have b5 : g5.get g1.next = some (.cells (zg_ R C (zk_ g3.next N (some 2))) 97 true 0) := by rw [hg5]; simp
 refine ⟨g5, g3.next, ?_, ?_, by omega, ⟨?_, by rw [hg5]; simp; omega, he⟩⟩
 ·unfold zDf_
  dsimp only
  rw [← hg1, ← hg2, ← hg3]
  with_reducible repeat' first | refine sbn ?_ | refine bnd (ldM3 (by assumption)) ?_ | refine bnd (zm_ _ _ _) ?_ | refine bnd (ldI0 (by assumption)) ?_ | refine bnd (ldI1 (by assumption)) ?_ | refine bnd (ldL2 (by assumption)) ?_ | refine jn ?_ | refine gp1 ?_ ?_ | refine gp2 ?_ ?_ ?_ | refine gp3 ?_ ?_ ?_ ?_ | refine bnd (ldZ0 (by assumption)) ?_ | refine bnd (ldZ1 (by assumption)) ?_ | refine bnd (ldZ2 (by assumption)) ?_ | rfl
  refine bnd rd ?_
  rw [sl]
  refine bnd ap ?_
  with_reducible repeat' first | refine sbn ?_ | refine bnd (ldM3 (by assumption)) ?_ | refine bnd (zm_ _ _ _) ?_ | refine bnd (ldI0 (by assumption)) ?_ | refine bnd (ldI1 (by assumption)) ?_ | refine bnd (ldL2 (by assumption)) ?_ | refine jn ?_ | refine gp1 ?_ ?_ | refine gp2 ?_ ?_ ?_ | refine gp3 ?_ ?_ ?_ ?_ | refine bnd (ldZ0 (by assumption)) ?_ | refine bnd (ldZ1 (by assumption)) ?_ | refine bnd (ldZ2 (by assumption)) ?_ | rfl
  refine bnd st ?_
  with_reducible repeat' first | refine sbn ?_ | refine bnd (ldM3 (by assumption)) ?_ | refine bnd (zm_ _ _ _) ?_ | refine bnd (ldI0 (by assumption)) ?_ | refine bnd (ldI1 (by assumption)) ?_ | refine bnd (ldL2 (by assumption)) ?_ | refine jn ?_ | refine gp1 ?_ ?_ | refine gp2 ?_ ?_ ?_ | refine gp3 ?_ ?_ ?_ ?_ | refine bnd (ldZ0 (by assumption)) ?_ | refine bnd (ldZ1 (by assumption)) ?_ | refine bnd (ldZ2 (by assumption)) ?_ | rfl
 ·exact (k13.trans k4).beh (T := (· = g1.next)) (hg5 ▸ Chg.set (.inr rfl)) fun x hx e => by
   have e : x = g1.next := e
   omega
 ·rw [hg5, AHeap.get_set, if_neg (by omega), hg4]; simp
section
variable {H0 : AHeap} {O ob R C : Nat} {s : Slc} {e : TypeId} {f f' g : Nat → Nat} {h h' : AHeap}
theorem In1.at (S : In1 h O ob R C s e g) (k : Nat) (D : za_) {i j : Nat} (hi : i < R) (hj : j < C) (hs : R * C ≤ 100000) :
  ∃ h', zY_ k D (R, C, s) (i : Int) (j : Int) h = some ((g (i * C + j) : Int), h') ∧ zb_ h h' := by
 have := zQ_ (c := C) hi
 exact zYx_ k D (r := R) (C := C) (i := i) (j := j) S.row (by unfold matN; exact zdd_ (by omega)) (by omega)
end
section
variable {k0 : Nat} {H0 : AHeap} {O oa oo R C : Nat} {sA rs : Slc} {rows : List Int} {g : Nat → Nat}
theorem zQx_ (D : za_) {yb : Nat} {h : AHeap} (Rr : Row encI h rs rows) (hl : rows.length ≤ 255) (ca : h.get oa = some (.cells (zg_ R C sA) 97 true 0)) (y : h.get yb = some (.cells (zg_ 0 0 nilS) 97 true 0)) (J) : ∀ (m i : Nat), i + m = rows.length → ∀ bot,
  zh_ bot (m + 1) (zed_ k0 D J) rs (some ⟨oa, 0, none⟩) (some ⟨yb, 0, none⟩) (i : Int) h = if (rows.drop i).all (okR R) = true then J rs (some ⟨oa, 0, none⟩) (some ⟨yb, 0, none⟩) h else some (((0, 0, nilS), 1), h)
 | 0, i, hi, bot => by
  rw [ze_, zed_]
  refine ifn (by rw [decide_eq_true_eq, Rr.1]; omega) ?_
  rw [List.drop_eq_nil_of_le (by omega)]
  rfl
 | m + 1, i, hi, bot => by
  obtain ⟨x, hx⟩ := zy_ (l := rows) (i := i) (by omega)
  obtain ⟨q, hq, hld⟩ := Rr.ldI hx
  have ih := zQx_ D Rr hl ca y J m (i + 1) (by omega) bot
  rw [ze_, zed_]
  refine ifp (by rw [decide_eq_true_eq, Rr.1]; omega) ?_
  with_reducible repeat' first | refine sbn ?_ | refine bnd (ldM3 (by assumption)) ?_ | refine bnd (zm_ _ _ _) ?_ | refine bnd (ldI0 (by assumption)) ?_ | refine bnd (ldI1 (by assumption)) ?_ | refine bnd (ldL2 (by assumption)) ?_ | refine jn ?_ | refine gp1 ?_ ?_ | refine gp2 ?_ ?_ ?_ | refine gp3 ?_ ?_ ?_ ?_ | refine bnd (ldZ0 (by assumption)) ?_ | refine bnd (ldZ1 (by assumption)) ?_ | refine bnd (ldZ2 (by assumption)) ?_ | rfl
  refine bnd hq (bnd hld ?_)
  rw [zCD_ hx]
  by_cases c1 : x < 0
  ·refine ifp (by rw [decide_eq_true_eq]; exact c1) (ifp rfl ?_)
   rw [if_neg (by simp [okR, c1])]
   exact zfin y fun x h => some ((x, (1 : Int)), h)
  ·refine ifn (by rw [decide_eq_true_eq]; exact c1) ?_
   refine bnd hq (bnd hld ?_)
   with_reducible repeat' first | refine sbn ?_ | refine bnd (ldM3 (by assumption)) ?_ | refine bnd (zm_ _ _ _) ?_ | refine bnd (ldI0 (by assumption)) ?_ | refine bnd (ldI1 (by assumption)) ?_ | refine bnd (ldL2 (by assumption)) ?_ | refine jn ?_ | refine gp1 ?_ ?_ | refine gp2 ?_ ?_ ?_ | refine gp3 ?_ ?_ ?_ ?_ | refine bnd (ldZ0 (by assumption)) ?_ | refine bnd (ldZ1 (by assumption)) ?_ | refine bnd (ldZ2 (by assumption)) ?_ | rfl
   by_cases c2 : x ≥ (R : Int)
   ·refine ifp (by rw [decide_eq_true_eq]; exact c2) ?_
    rw [if_neg (by simp [okR, c2])]
    exact zfin y fun x h => some ((x, (1 : Int)), h)
   ·refine ifn (by rw [decide_eq_true_eq]; exact c2) ?_
    rw [w1 (by omega), ih]
    simp [okR, c1, c2]
end
section
variable {k0 : Nat} {H0 : AHeap} {O oa oo R C : Nat} {sA rs : Slc} {rows : List Int} {g : Nat → Nat}
theorem zSE_ (D : za_) (hC : C ≤ 255) (hR : R ≤ 255) (hl : rows.length ≤ 255) (hok : rows.all (okR R) = true) (hap : ∀ a, rs.a = some a → ¬ a.block = O) (y : Option Addr) {i : Nat} (hi : i < rows.length) : ∀ (m j : Nat) (h : AHeap), j + m = C → Row encI h rs rows → In1 h O oa R C sA 97 g → Ou1 H0 O oo rows.length C 97 (pf (i * C + j) (zeb_ C g (zI_ rows))) h →
  ∃ h', Chg (· = O) h h' ∧ Ou1 H0 O oo rows.length C 97 (pf ((i + 1) * C) (zeb_ C g (zI_ rows))) h' ∧ ∀ J bot, zh_ bot (m + 1) (zJe_ k0 D J) rs (some ⟨oa, 0, none⟩) y (some ⟨oo, 0, none⟩) (i : Int) (j : Int) h = J rs (some ⟨oa, 0, none⟩) y (some ⟨oo, 0, none⟩) (i : Int) h' := by
 intro m
 have hs : R * C ≤ 100000 := Nat.le_trans (Nat.mul_le_mul hR hC) (by omega)
 have hs2 : rows.length * C ≤ 100000 := Nat.le_trans (Nat.mul_le_mul hl hC) (by omega)
 obtain ⟨hx, hw⟩ := zMl_ hok hi
 induction m with
 | zero =>
  intro j h hj Rr A Z
  obtain rfl : j = C := by omega
  refine ⟨h, .refl _ _, by rw [Nat.succ_mul]; exact Z, fun J bot => ?_⟩
  have ca := A.cel
  rw [ze_, zJe_]
  with_reducible repeat' first | refine sbn ?_ | refine bnd (ldM3 (by assumption)) ?_ | refine bnd (zm_ _ _ _) ?_ | refine bnd (ldI0 (by assumption)) ?_ | refine bnd (ldI1 (by assumption)) ?_ | refine bnd (ldL2 (by assumption)) ?_ | refine jn ?_ | refine gp1 ?_ ?_ | refine gp2 ?_ ?_ ?_ | refine gp3 ?_ ?_ ?_ ?_ | refine bnd (ldZ0 (by assumption)) ?_ | refine bnd (ldZ1 (by assumption)) ?_ | refine bnd (ldZ2 (by assumption)) ?_ | rfl
  exact ifn (by rw [decide_eq_true_eq]; omega) rfl
 | succ m ih =>
  intro j h hj Rr A Z
  have hj' : j < C := by omega
  have pA := zQ_ (c := C) hw
  have pO := zQ_ (c := C) hi
  obtain ⟨q, hq, hld⟩ := Rr.ldI hx
  obtain ⟨h1, e1, k1⟩ := A.at k0 D hw hj' hs
  have A1 := A.keeps k1
  have Z1 := Z.keeps k1
  obtain ⟨h2, e2, Z2, c2⟩ := Z1.wr (t := i * C + j) (x := g (zI_ rows i * C + j)) (by omega) (A.el _ (by omega))
  obtain ⟨h', c', Z', e'⟩ := ih (j + 1) h2 (by omega) ((Rr.keeps k1).chg c2 hap) (A1.chg c2) (Z2.congr fun t _ => by rw [← zVr_ (g := g) (w := zI_ rows) hj']; exact zRG_ _ _ t)
  refine ⟨h', ((Chg.keeps k1).trans c2).trans c', Z', fun J bot => ?_⟩
  have ca := A.cel
  have ca1 := A1.cel
  have co := Z.cel
  have co1 := Z1.cel
  rw [ze_, zJe_]
  with_reducible repeat' first | refine sbn ?_ | refine bnd (ldM3 (by assumption)) ?_ | refine bnd (zm_ _ _ _) ?_ | refine bnd (ldI0 (by assumption)) ?_ | refine bnd (ldI1 (by assumption)) ?_ | refine bnd (ldL2 (by assumption)) ?_ | refine jn ?_ | refine gp1 ?_ ?_ | refine gp2 ?_ ?_ ?_ | refine gp3 ?_ ?_ ?_ ?_ | refine bnd (ldZ0 (by assumption)) ?_ | refine bnd (ldZ1 (by assumption)) ?_ | refine bnd (ldZ2 (by assumption)) ?_ | rfl
  refine ifp (by rw [decide_eq_true_eq]; omega) ?_
  with_reducible repeat' first | refine sbn ?_ | refine bnd (ldM3 (by assumption)) ?_ | refine bnd (zm_ _ _ _) ?_ | refine bnd (ldI0 (by assumption)) ?_ | refine bnd (ldI1 (by assumption)) ?_ | refine bnd (ldL2 (by assumption)) ?_ | refine jn ?_ | refine gp1 ?_ ?_ | refine gp2 ?_ ?_ ?_ | refine gp3 ?_ ?_ ?_ ?_ | refine bnd (ldZ0 (by assumption)) ?_ | refine bnd (ldZ1 (by assumption)) ?_ | refine bnd (ldZ2 (by assumption)) ?_ | rfl
  refine bnd hq (bnd hld ?_)
  refine bnd e1 ?_
  with_reducible repeat' first | refine sbn ?_ | refine bnd (ldM3 (by assumption)) ?_ | refine bnd (zm_ _ _ _) ?_ | refine bnd (ldI0 (by assumption)) ?_ | refine bnd (ldI1 (by assumption)) ?_ | refine bnd (ldL2 (by assumption)) ?_ | refine jn ?_ | refine gp1 ?_ ?_ | refine gp2 ?_ ?_ ?_ | refine gp3 ?_ ?_ ?_ ?_ | refine bnd (ldZ0 (by assumption)) ?_ | refine bnd (ldZ1 (by assumption)) ?_ | refine bnd (ldZ2 (by assumption)) ?_ | rfl
  refine bnd (widx (C := C) (i := i) (show i * C + j < rows.length * C by omega) hs2) (bnd e2 ?_)
  rw [w1 (by omega)]
  exact e' J bot
end
section
variable {k0 : Nat} {H0 : AHeap} {O oa oo R C : Nat} {sA rs : Slc} {rows : List Int} {g : Nat → Nat}
theorem zyE_ (hk : 1000 ≤ k0) (D : za_) (hC : C ≤ 255) (hR : R ≤ 255) (hl : rows.length ≤ 255) (hok : rows.all (okR R) = true) (hap : ∀ a, rs.a = some a → ¬ a.block = O) (y : Option Addr) : ∀ (m i : Nat) (h : AHeap), i + m = rows.length → Row encI h rs rows → In1 h O oa R C sA 97 g → Ou1 H0 O oo rows.length C 97 (pf (i * C) (zeb_ C g (zI_ rows))) h →
  ∃ h', Chg (· = O) h h' ∧ Ou1 H0 O oo rows.length C 97 (zeb_ C g (zI_ rows)) h' ∧ ∀ J bot, zh_ bot (m + 1) (zCe_ k0 D J) rs (some ⟨oa, 0, none⟩) y (some ⟨oo, 0, none⟩) (i : Int) h = J y (some ⟨oo, 0, none⟩) h' := by
 intro m
 induction m with
 | zero =>
  intro i h hi Rr A Z
  obtain rfl : i = rows.length := by omega
  refine ⟨h, .refl _ _, Z.congr fun t ht => by unfold pf; rw [if_pos ht], fun J bot => ?_⟩
  rw [ze_, zCe_]
  exact ifn (by rw [decide_eq_true_eq, Rr.1]; omega) rfl
 | succ m ih =>
  intro i h hi Rr A Z
  have hi' : i < rows.length := by omega
  obtain ⟨h1, c1, Z1, e1⟩ := zSE_ (k0 := k0) D hC hR hl hok hap y hi' C 0 h (by omega) Rr A Z
  obtain ⟨h', c', Z', e'⟩ := ih (i + 1) h1 (by omega) (Rr.chg c1 hap) (A.chg c1) Z1
  refine ⟨h', c1.trans c', Z', fun J bot => ?_⟩
  rw [ze_, zCe_]
  refine ifp (by rw [decide_eq_true_eq, Rr.1]; omega) ?_
  with_reducible repeat' first | refine sbn ?_ | refine bnd (ldM3 (by assumption)) ?_ | refine bnd (zm_ _ _ _) ?_ | refine bnd (ldI0 (by assumption)) ?_ | refine bnd (ldI1 (by assumption)) ?_ | refine bnd (ldL2 (by assumption)) ?_ | refine jn ?_ | refine gp1 ?_ ?_ | refine gp2 ?_ ?_ ?_ | refine gp3 ?_ ?_ ?_ ?_ | refine bnd (ldZ0 (by assumption)) ?_ | refine bnd (ldZ1 (by assumption)) ?_ | refine bnd (ldZ2 (by assumption)) ?_ | rfl
  unfold zUn_
  obtain ⟨bot2, hbot2⟩ := zp_ (fun _ _ _ _ _ _ _ => none) (zJe_ k0 D _) (show C + 1 ≤ k0 by omega)
  rw [hbot2]
  refine (e1 _ bot2).trans ?_
  rw [w1 (by omega)]
  exact e' J bot
end
theorem zoC_ {k0 : Nat} (hk : 200000 ≤ k0) (D : za_) {h : AHeap} {r c : Int} {s rs : Slc} {xs rows : List Int} (I : Row encI h s xs) (hl : xs.length ≤ 100000) (Rr : Row encI h rs rows) :
  ∃ h' res, zfe_ k0 D (r, c, s) rs h = some (res, h') ∧ Out h h' res (zNg_ r c xs rows) ∧ zb_ h h' := by
 obtain ⟨g1, hg1⟩ : ∃ g1, g1 = h.new (.cells [.int .i64 r, .int .i64 c, .slice s.a s.len s.cap] 97 true 0) := ⟨_, rfl⟩
 have k1 : zb_ h g1 := hg1 ▸ zb_.new h _
 have n1 : g1.next = h.next + 1 := by rw [hg1]; rfl
 obtain ⟨g2, hg2⟩ : ∃ g2, g2 = g1.new (.cells [.int .i64 0, .int .i64 0, .slice none 0 0] 97 true 0) := ⟨_, rfl⟩
 have k2 : zb_ g1 g2 := hg2 ▸ zb_.new g1 _
 have n2 : g2.next = g1.next + 1 := by rw [hg2]; rfl
 have k02 := k1.trans k2
 have a2 : g2.get h.next = some (.cells (zg_ r c s) 97 true 0) := by rw [k2.oth _ (by omega) (fun f => f), hg1]; simp [zg_]
 have y2 : g2.get g1.next = some (.cells (zg_ 0 0 nilS) 97 true 0) := by rw [hg2]; simp [zg_, nilS]
 obtain ⟨g5, e5, k5⟩ := zop_ (k0 := k0) D (r := r) (c := c) (I.keeps k02) (by omega) (by omega)
 have k05 := k02.trans k5
 have a5 : g5.get h.next = some (.cells (zg_ r c s) 97 true 0) := by rw [k5.oth _ (by omega) (fun f => f)]; exact a2
 have y5 : g5.get g1.next = some (.cells (zg_ 0 0 nilS) 97 true 0) := by rw [k5.oth _ (by omega) (fun f => f)]; exact y2
 have nx5 := k5.nx
 have R5 := Rr.keeps k05
 by_cases ec : chk r c xs = 0
 ·by_cases el : rows.length = 0 ∨ rows.length > 255
  ·refine ⟨g5, ((0, 0, nilS), 1), ?_, ?_, k05⟩
   ·unfold zfe_
    dsimp only
    rw [← hg1, ← hg2]
    with_reducible repeat' first | refine sbn ?_ | refine bnd (ldM3 (by assumption)) ?_ | refine bnd (zm_ _ _ _) ?_ | refine bnd (ldI0 (by assumption)) ?_ | refine bnd (ldI1 (by assumption)) ?_ | refine bnd (ldL2 (by assumption)) ?_ | refine jn ?_ | refine gp1 ?_ ?_ | refine gp2 ?_ ?_ ?_ | refine gp3 ?_ ?_ ?_ ?_ | refine bnd (ldZ0 (by assumption)) ?_ | refine bnd (ldZ1 (by assumption)) ?_ | refine bnd (ldZ2 (by assumption)) ?_ | rfl
    refine bnd e5 (ifn (by simp [ec]) ?_)
    with_reducible repeat' first | refine sbn ?_ | refine bnd (ldM3 (by assumption)) ?_ | refine bnd (zm_ _ _ _) ?_ | refine bnd (ldI0 (by assumption)) ?_ | refine bnd (ldI1 (by assumption)) ?_ | refine bnd (ldL2 (by assumption)) ?_ | refine jn ?_ | refine gp1 ?_ ?_ | refine gp2 ?_ ?_ ?_ | refine gp3 ?_ ?_ ?_ ?_ | refine bnd (ldZ0 (by assumption)) ?_ | refine bnd (ldZ1 (by assumption)) ?_ | refine bnd (ldZ2 (by assumption)) ?_ | rfl
    rw [Rr.1]
    by_cases e0 : rows.length = 0
    ·refine ifp (by rw [decide_eq_true_eq]; omega) (ifp rfl ?_)
     exact zfin y5 fun x h => some ((x, (1 : Int)), h)
    ·refine ifn (by rw [decide_eq_true_eq]; omega) (ifp (by rw [decide_eq_true_eq]; omega) ?_)
     exact zfin y5 fun x h => some ((x, (1 : Int)), h)
   ·unfold zNg_
    rw [if_neg (fun h => h ec), if_pos el]
    exact Out.no _
  ·obtain ⟨R, C, g, rfl, rfl, hR1, hR2, hC1, hC2, hxs, hel⟩ := zls_ ec
   have lC : ∀ J, rows.length ≤ 255 → zh_ (fun _ _ _ _ _ => none) k0 (zed_ k0 D J) rs (some ⟨h.next, 0, none⟩) (some ⟨g1.next, 0, none⟩) 0 g5 = if rows.all (okR R) = true then J rs (some ⟨h.next, 0, none⟩) (some ⟨g1.next, 0, none⟩) g5 else some (((0, 0, nilS), 1), g5) := fun J hl => by
    obtain ⟨bot, hbot⟩ := zp_ (fun _ _ _ _ _ => none) (zed_ k0 D J) (show rows.length + 1 ≤ k0 by omega)
    rw [hbot]
    exact zQx_ (k0 := k0) (C := C) (sA := s) D R5 hl a5 y5 J rows.length 0 (by omega) bot
   by_cases call : rows.all (okR R) = true
   ·have lA := zet_ I (by rw [hxs]; exact zBq_ (by have := Nat.mul_pos hR1 hC1; omega))
    have lR := zet_ Rr (fun e => by rw [e] at el; simp at el)
    have I5 := I.keeps k05
    rw [hxs] at I5
    have hN2 : rows.length * C ≤ 100000 := Nat.le_trans (Nat.mul_le_mul (show rows.length ≤ 255 by omega) hC2) (by omega)
    obtain ⟨g6, e6, k6, n6, b6⟩ := zYp_ k0 D rows.length C g5 hN2
    obtain ⟨g7, st7, k7, n7, b7⟩ := mvar (h := g6) (e := 97) (r := (rows.length : Int)) (c := (C : Int)) (s := zk_ (g5.next + 1) (rows.length * C))
    have k57 := k6.trans k7
    have k07 := k05.trans k57
    have o7 : Mx g7 (g5.next + 1) (rows.length * C) (fun _ => 0) := by
     have q : Mx g6 (g5.next + 1) (rows.length * C) (fun _ => 0) := ⟨b6, by omega, fun _ _ => by omega⟩
     exact q.keeps k7
    have A7 : In1 g7 (g5.next + 1) h.next R C s 97 g := ⟨I5.keeps k57, by rw [k57.oth _ (by omega) (fun f => f)]; exact a5, by omega, by omega, fun a ha => by have := lA a ha; omega, hel⟩
    have Z7 : Ou1 g7 (g5.next + 1) g6.next rows.length C 97 (pf (0 * C) (zeb_ C g (zI_ rows))) g7 := ⟨o7.congr fun t _ => by unfold pf; rw [Nat.zero_mul, if_neg (Nat.not_lt_zero _)], b7, by omega, by omega, .refl _ _⟩
    obtain ⟨g8, c8, Z8, e8⟩ := zyE_ (show 1000 ≤ k0 by omega) D hC2 hR2 (by omega) call (fun a ha => by have := lR a ha; omega) (some ⟨g1.next, 0, none⟩) rows.length 0 g7 (by omega) (R5.keeps k57) A7 Z7
    have nx8 := c8.nx
    have y8 : g8.get g1.next = some (.cells (zg_ 0 0 nilS) 97 true 0) := by
     rw [c8.oth _ (by omega) (by omega), k57.oth _ (by omega) (fun f => f)]; exact y5
    have co8 := Z8.cel
    have c08 : zb_ h g8 := k07.beh c8 fun x hx e => by have e : x = g5.next + 1 := e; omega
    refine ⟨g8.set g1.next (.cells (zg_ rows.length C (zk_ (g5.next + 1) (rows.length * C))) 97 true 0), ((rows.length, C, zk_ (g5.next + 1) (rows.length * C)), 0), ?_, ?_, c08.beh (T := (· = g1.next)) (Chg.set (.inr rfl)) fun x hx e => by
     have e : x = g1.next := e
     omega⟩
    ·unfold zfe_
     dsimp only
     rw [← hg1, ← hg2]
     with_reducible repeat' first | refine sbn ?_ | refine bnd (ldM3 (by assumption)) ?_ | refine bnd (zm_ _ _ _) ?_ | refine bnd (ldI0 (by assumption)) ?_ | refine bnd (ldI1 (by assumption)) ?_ | refine bnd (ldL2 (by assumption)) ?_ | refine jn ?_ | refine gp1 ?_ ?_ | refine gp2 ?_ ?_ ?_ | refine gp3 ?_ ?_ ?_ ?_ | refine bnd (ldZ0 (by assumption)) ?_ | refine bnd (ldZ1 (by assumption)) ?_ | refine bnd (ldZ2 (by assumption)) ?_ | rfl
     refine bnd e5 (ifn (by simp [ec]) ?_)
     with_reducible repeat' first | refine sbn ?_ | refine bnd (ldM3 (by assumption)) ?_ | refine bnd (zm_ _ _ _) ?_ | refine bnd (ldI0 (by assumption)) ?_ | refine bnd (ldI1 (by assumption)) ?_ | refine bnd (ldL2 (by assumption)) ?_ | refine jn ?_ | refine gp1 ?_ ?_ | refine gp2 ?_ ?_ ?_ | refine gp3 ?_ ?_ ?_ ?_ | refine bnd (ldZ0 (by assumption)) ?_ | refine bnd (ldZ1 (by assumption)) ?_ | refine bnd (ldZ2 (by assumption)) ?_ | rfl
     rw [Rr.1]
     refine ifn (by rw [decide_eq_true_eq]; omega) (ifn (by rw [decide_eq_true_eq]; omega) ?_)
     with_reducible repeat' first | refine sbn ?_ | refine bnd (ldM3 (by assumption)) ?_ | refine bnd (zm_ _ _ _) ?_ | refine bnd (ldI0 (by assumption)) ?_ | refine bnd (ldI1 (by assumption)) ?_ | refine bnd (ldL2 (by assumption)) ?_ | refine jn ?_ | refine gp1 ?_ ?_ | refine gp2 ?_ ?_ ?_ | refine gp3 ?_ ?_ ?_ ?_ | refine bnd (ldZ0 (by assumption)) ?_ | refine bnd (ldZ1 (by assumption)) ?_ | refine bnd (ldZ2 (by assumption)) ?_ | rfl
     unfold zhj_
     rw [lC _ (by omega), if_pos call]
     with_reducible repeat' first | refine sbn ?_ | refine bnd (ldM3 (by assumption)) ?_ | refine bnd (zm_ _ _ _) ?_ | refine bnd (ldI0 (by assumption)) ?_ | refine bnd (ldI1 (by assumption)) ?_ | refine bnd (ldL2 (by assumption)) ?_ | refine jn ?_ | refine gp1 ?_ ?_ | refine gp2 ?_ ?_ ?_ | refine gp3 ?_ ?_ ?_ ?_ | refine bnd (ldZ0 (by assumption)) ?_ | refine bnd (ldZ1 (by assumption)) ?_ | refine bnd (ldZ2 (by assumption)) ?_ | rfl
     rw [Rr.1]
     refine bnd e6 (bnd st7 ?_)
     with_reducible repeat' first | refine sbn ?_ | refine bnd (ldM3 (by assumption)) ?_ | refine bnd (zm_ _ _ _) ?_ | refine bnd (ldI0 (by assumption)) ?_ | refine bnd (ldI1 (by assumption)) ?_ | refine bnd (ldL2 (by assumption)) ?_ | refine jn ?_ | refine gp1 ?_ ?_ | refine gp2 ?_ ?_ ?_ | refine gp3 ?_ ?_ ?_ ?_ | refine bnd (ldZ0 (by assumption)) ?_ | refine bnd (ldZ1 (by assumption)) ?_ | refine bnd (ldZ2 (by assumption)) ?_ | rfl
     unfold zho_
     obtain ⟨bot, hbot⟩ := zp_ (fun _ _ _ _ _ _ => none) (zCe_ k0 D _) (show rows.length + 1 ≤ k0 by omega)
     rw [hbot]
     refine (e8 _ bot).trans ?_
     exact yfin co8 y8 fun x h => some ((x, (0 : Int)), h)
    ·unfold zNg_
     rw [if_neg (fun h => h ec), if_neg el, if_pos (show rows.all (okR (R : Int).toNat) = true from call)]
     simp only [Int.toNat_natCast]
     have u9 : Mx (g8.set g1.next (.cells (zg_ rows.length C (zk_ (g5.next + 1) (rows.length * C))) 97 true 0)) (g5.next + 1) (rows.length * C) (zeb_ C g (zI_ rows)) := Z8.o.chg (S := (· = g1.next)) (Chg.set (.inr rfl)) (by omega)
     refine ⟨rfl, rfl, rfl, ?_, zPo_ (by omega)⟩
     refine (u9.congr fun t ht => ?_).inM (sp := some 0) rfl
     have hd := (Nat.div_lt_iff_lt_mul hC1).2 ht
     have hm := Nat.mod_lt t hC1
     have := zQ_ (c := C) (zMl_ call hd).2
     unfold zeb_
     rw [hxs, zWg_ (by omega)]
   ·refine ⟨g5, ((0, 0, nilS), 1), ?_, ?_, k05⟩
    ·unfold zfe_
     dsimp only
     rw [← hg1, ← hg2]
     with_reducible repeat' first | refine sbn ?_ | refine bnd (ldM3 (by assumption)) ?_ | refine bnd (zm_ _ _ _) ?_ | refine bnd (ldI0 (by assumption)) ?_ | refine bnd (ldI1 (by assumption)) ?_ | refine bnd (ldL2 (by assumption)) ?_ | refine jn ?_ | refine gp1 ?_ ?_ | refine gp2 ?_ ?_ ?_ | refine gp3 ?_ ?_ ?_ ?_ | refine bnd (ldZ0 (by assumption)) ?_ | refine bnd (ldZ1 (by assumption)) ?_ | refine bnd (ldZ2 (by assumption)) ?_ | rfl
     refine bnd e5 (ifn (by simp [ec]) ?_)
     with_reducible repeat' first | refine sbn ?_ | refine bnd (ldM3 (by assumption)) ?_ | refine bnd (zm_ _ _ _) ?_ | refine bnd (ldI0 (by assumption)) ?_ | refine bnd (ldI1 (by assumption)) ?_ | refine bnd (ldL2 (by assumption)) ?_ | refine jn ?_ | refine gp1 ?_ ?_ | refine gp2 ?_ ?_ ?_ | refine gp3 ?_ ?_ ?_ ?_ | refine bnd (ldZ0 (by assumption)) ?_ | refine bnd (ldZ1 (by assumption)) ?_ | refine bnd (ldZ2 (by assumption)) ?_ | rfl
     rw [Rr.1]
     refine ifn (by rw [decide_eq_true_eq]; omega) (ifn (by rw [decide_eq_true_eq]; omega) ?_)
     with_reducible repeat' first | refine sbn ?_ | refine bnd (ldM3 (by assumption)) ?_ | refine bnd (zm_ _ _ _) ?_ | refine bnd (ldI0 (by assumption)) ?_ | refine bnd (ldI1 (by assumption)) ?_ | refine bnd (ldL2 (by assumption)) ?_ | refine jn ?_ | refine gp1 ?_ ?_ | refine gp2 ?_ ?_ ?_ | refine gp3 ?_ ?_ ?_ ?_ | refine bnd (ldZ0 (by assumption)) ?_ | refine bnd (ldZ1 (by assumption)) ?_ | refine bnd (ldZ2 (by assumption)) ?_ | rfl
     unfold zhj_
     rw [lC _ (by omega), if_neg call]
    ·unfold zNg_
     rw [if_neg (fun h => h ec), if_neg el, if_neg (show ¬ rows.all (okR (R : Int).toNat) = true from call)]
     exact Out.no _
 ·refine ⟨g5, ((0, 0, nilS), chk r c xs), ?_, ?_, k05⟩
  ·unfold zfe_
   dsimp only
   rw [← hg1, ← hg2]
   with_reducible repeat' first | refine sbn ?_ | refine bnd (ldM3 (by assumption)) ?_ | refine bnd (zm_ _ _ _) ?_ | refine bnd (ldI0 (by assumption)) ?_ | refine bnd (ldI1 (by assumption)) ?_ | refine bnd (ldL2 (by assumption)) ?_ | refine jn ?_ | refine gp1 ?_ ?_ | refine gp2 ?_ ?_ ?_ | refine gp3 ?_ ?_ ?_ ?_ | refine bnd (ldZ0 (by assumption)) ?_ | refine bnd (ldZ1 (by assumption)) ?_ | refine bnd (ldZ2 (by assumption)) ?_ | rfl
   refine bnd e5 (ifp (by simpa using ec) ?_)
   exact zfin y5 fun x h => some ((x, chk r c xs), h)
  ·unfold zNg_
   rw [if_pos ec]
   exact Out.no _
section
variable {H0 : AHeap} {B B2 oa ol ou yb R : Nat} {s : Slc} {sp sp2 : Option Nat} {g u g' u' : Nat → Nat} {h h' : AHeap}
theorem zhC_ {C N : Nat} {sp : Option Nat} (m : Mx h B (N * C) g) (k : Nat) (D : za_) {i j : Nat} (hi : i < N) (hj : j < C) (hs : N * C ≤ 100000) :
  ∃ h', zY_ k D (N, C, zk_ B (N * C) sp) (i : Int) (j : Int) h = some ((g (i * C + j) : Int), h') ∧ zb_ h h' := by
 have := zQ_ (c := C) hi
 exact zYx_ k D (r := N) (C := C) (i := i) (j := j) (m.row (sp := sp)) (by unfold matN; exact zdd_ (by omega)) (by omega)
end
section
variable {k0 : Nat} {H0 : AHeap} {B B2 oa ol ou yb R : Nat} {s : Slc} {sp sp2 : Option Nat} {g u : Nat → Nat}
theorem zOF_ (hk : 1000 ≤ k0) (K : za_) (D : DR B B2 oa ol ou yb) (hR : R ≤ 255) {j : Nat} (hj : j < R) : ∀ (m i : Nat) (h : AHeap), i + m = R → SR H0 B B2 oa ol ou yb R s sp sp2 (zUb_ R j j i g) (zod_ R R j j i g u) h →
  ∃ h', SR H0 B B2 oa ol ou yb R s sp sp2 (zVc_ R j j g) (zSc_ R R j j g u) h' ∧ ∀ J bot, zh_ bot (m + 1) (zvb_ k0 K J) (some ⟨oa, 0, none⟩) (some ⟨yb, 0, none⟩) (some ⟨ol, 0, none⟩) (some ⟨ou, 0, none⟩) (j : Int) (i : Int) h = J (some ⟨oa, 0, none⟩) (some ⟨yb, 0, none⟩) (some ⟨ol, 0, none⟩) (some ⟨ou, 0, none⟩) (j : Int) h' := by
 intro m
 have hs : R * R ≤ 100000 := Nat.le_trans (Nat.mul_le_mul hR hR) (by omega)
 have hR0 : 0 < R := by omega
 induction m with
 | zero =>
  intro i h hi S
  obtain rfl : i = R := by omega
  refine ⟨h, S.congr (fun t ht => ?_) (fun t ht => ?_), fun J bot => ?_⟩
  ·unfold zUb_; rw [if_pos ((Nat.div_lt_iff_lt_mul hR0).2 ht)]
  ·unfold zod_; rw [if_pos ((Nat.div_lt_iff_lt_mul hR0).2 ht)]
  ·have ca := S.ca
   rw [ze_, zvb_]
   with_reducible repeat' first | refine sbn ?_ | refine bnd (ldM3 (by assumption)) ?_ | refine bnd (zm_ _ _ _) ?_ | refine bnd (ldI0 (by assumption)) ?_ | refine bnd (ldI1 (by assumption)) ?_ | refine bnd (ldL2 (by assumption)) ?_ | refine jn ?_ | refine gp1 ?_ ?_ | refine gp2 ?_ ?_ ?_ | refine gp3 ?_ ?_ ?_ ?_ | refine bnd (ldZ0 (by assumption)) ?_ | refine bnd (ldZ1 (by assumption)) ?_ | refine bnd (ldZ2 (by assumption)) ?_ | rfl
   exact ifn (by rw [decide_eq_true_eq]; omega) rfl
 | succ m ih =>
  intro i h hi S
  have hi' : i < R := by omega
  have pi := zQ_ (c := R) hi'
  have pr := zQ_ (c := R) hj
  have ca := S.ca
  have cl := S.cl
  by_cases c1 : i = j
  ·obtain ⟨h', S', e'⟩ := ih (i + 1) h (by omega) (S.congr (fun t _ => by
     unfold zUb_
     by_cases d : t / R < i
     ·rw [if_pos d, if_pos (by omega)]
     ·rw [if_neg d]
      by_cases d2 : t / R < i + 1
      ·rw [if_pos d2]; unfold zVc_; rw [if_pos (by omega)]
      ·rw [if_neg d2]) (fun t _ => by
     unfold zod_
     by_cases d : t / R < i
     ·rw [if_pos d, if_pos (by omega)]
     ·rw [if_neg d]
      by_cases d2 : t / R < i + 1
      ·rw [if_pos d2]; unfold zSc_; rw [if_pos (by omega)]
      ·rw [if_neg d2]))
   refine ⟨h', S', fun J bot => ?_⟩
   rw [ze_, zvb_]
   with_reducible repeat' first | refine sbn ?_ | refine bnd (ldM3 (by assumption)) ?_ | refine bnd (zm_ _ _ _) ?_ | refine bnd (ldI0 (by assumption)) ?_ | refine bnd (ldI1 (by assumption)) ?_ | refine bnd (ldL2 (by assumption)) ?_ | refine jn ?_ | refine gp1 ?_ ?_ | refine gp2 ?_ ?_ ?_ | refine gp3 ?_ ?_ ?_ ?_ | refine bnd (ldZ0 (by assumption)) ?_ | refine bnd (ldZ1 (by assumption)) ?_ | refine bnd (ldZ2 (by assumption)) ?_ | rfl
   refine ifp (by rw [decide_eq_true_eq]; omega) ?_
   with_reducible repeat' first | refine sbn ?_ | refine bnd (ldM3 (by assumption)) ?_ | refine bnd (zm_ _ _ _) ?_ | refine bnd (ldI0 (by assumption)) ?_ | refine bnd (ldI1 (by assumption)) ?_ | refine bnd (ldL2 (by assumption)) ?_ | refine jn ?_ | refine gp1 ?_ ?_ | refine gp2 ?_ ?_ ?_ | refine gp3 ?_ ?_ ?_ ?_ | refine bnd (ldZ0 (by assumption)) ?_ | refine bnd (ldZ1 (by assumption)) ?_ | refine bnd (ldZ2 (by assumption)) ?_ | rfl
   refine ifn (by simp [c1]) (ifn (by simp) ?_)
   dsimp only
   rw [w1 (by omega)]
   exact e' J bot
  ·obtain ⟨h1, e1, k1⟩ := zhC_ S.a (sp := sp) k0 K hi' hj hs
   have geq : zUb_ R j j i g (i * R + j) = g (i * R + j) := by
    unfold zUb_; rw [zU_ hj, if_neg (by omega)]
   rw [geq] at e1
   have S1 := S.keeps k1
   by_cases c2 : g (i * R + j) = 0
   ·obtain ⟨h', S', e'⟩ := ih (i + 1) h1 (by omega) (S1.congr (fun t _ => by
      unfold zUb_
      by_cases d : t / R < i
      ·rw [if_pos d, if_pos (by omega)]
      ·rw [if_neg d]
       by_cases d2 : t / R < i + 1
       ·have : t / R = i := by omega
        rw [if_pos d2]; unfold zVc_; rw [if_neg (by omega), this, c2, zUf_, zuc_, Nat.xor_zero]
       ·rw [if_neg d2]) (fun t _ => by
      unfold zod_
      by_cases d : t / R < i
      ·rw [if_pos d, if_pos (by omega)]
      ·rw [if_neg d]
       by_cases d2 : t / R < i + 1
       ·have : t / R = i := by omega
        rw [if_pos d2]; unfold zSc_; rw [if_neg (by omega), this, c2, zUf_, zuc_, Nat.xor_zero]
       ·rw [if_neg d2]))
    refine ⟨h', S', fun J bot => ?_⟩
    rw [ze_, zvb_]
    with_reducible repeat' first | refine sbn ?_ | refine bnd (ldM3 (by assumption)) ?_ | refine bnd (zm_ _ _ _) ?_ | refine bnd (ldI0 (by assumption)) ?_ | refine bnd (ldI1 (by assumption)) ?_ | refine bnd (ldL2 (by assumption)) ?_ | refine jn ?_ | refine gp1 ?_ ?_ | refine gp2 ?_ ?_ ?_ | refine gp3 ?_ ?_ ?_ ?_ | refine bnd (ldZ0 (by assumption)) ?_ | refine bnd (ldZ1 (by assumption)) ?_ | refine bnd (ldZ2 (by assumption)) ?_ | rfl
    refine ifp (by rw [decide_eq_true_eq]; omega) ?_
    with_reducible repeat' first | refine sbn ?_ | refine bnd (ldM3 (by assumption)) ?_ | refine bnd (zm_ _ _ _) ?_ | refine bnd (ldI0 (by assumption)) ?_ | refine bnd (ldI1 (by assumption)) ?_ | refine bnd (ldL2 (by assumption)) ?_ | refine jn ?_ | refine gp1 ?_ ?_ | refine gp2 ?_ ?_ ?_ | refine gp3 ?_ ?_ ?_ ?_ | refine bnd (ldZ0 (by assumption)) ?_ | refine bnd (ldZ1 (by assumption)) ?_ | refine bnd (ldZ2 (by assumption)) ?_ | rfl
    refine ifp (by simp; omega) ?_
    with_reducible repeat' first | refine sbn ?_ | refine bnd (ldM3 (by assumption)) ?_ | refine bnd (zm_ _ _ _) ?_ | refine bnd (ldI0 (by assumption)) ?_ | refine bnd (ldI1 (by assumption)) ?_ | refine bnd (ldL2 (by assumption)) ?_ | refine jn ?_ | refine gp1 ?_ ?_ | refine gp2 ?_ ?_ ?_ | refine gp3 ?_ ?_ ?_ ?_ | refine bnd (ldZ0 (by assumption)) ?_ | refine bnd (ldZ1 (by assumption)) ?_ | refine bnd (ldZ2 (by assumption)) ?_ | rfl
    refine bnd e1 ?_
    refine ifn (by simp [c2]) ?_
    dsimp only
    rw [w1 (by omega)]
    exact e' J bot
   ·have cl1 := S1.cl
    obtain ⟨h2, e2, k2⟩ := zhC_ S1.a (sp := sp) k0 K hi' hj hs
    rw [geq] at e2
    have S2 := S1.keeps k2
    have cl2 := S2.cl
    have gel : g (i * R + j) < 256 := by rw [← geq]; exact S.a.el _ (by omega)
    obtain ⟨h3, e3, m3, c3⟩ := zss_ hk K (sp := sp) S2.a hR0 hR hs hi' hj c1 gel
    have S3 := S2.opA D m3 c3
    have cu3 := S3.cu
    obtain ⟨h4, e4, m4, c4⟩ := zss_ hk K (sp := sp2) S3.b hR0 hR hs hi' hj c1 gel
    have S4 := S3.opB D m4 c4
    obtain ⟨h', S', e'⟩ := ih (i + 1) h4 (by omega) (S4.congr (fun t _ => by
      have ht := Nat.mod_lt t hR0
      unfold addR
      dsimp only
      rw [zOr_ g ht]
      unfold zUb_
      by_cases d : t / R = i
      ·rw [if_pos d, if_neg (by omega), if_pos (by omega)]
       unfold zVc_
       rw [if_neg (by omega), d]
      ·rw [if_neg d]
       by_cases d2 : t / R < i
       ·rw [if_pos d2, if_pos (by omega)]
       ·rw [if_neg d2, if_neg (by omega)]) (fun t _ => by
      have ht := Nat.mod_lt t hR0
      unfold addR
      dsimp only
      rw [zMr_ g u ht]
      unfold zod_
      by_cases d : t / R = i
      ·rw [if_pos d, if_neg (by omega), if_pos (by omega)]
       unfold zSc_
       rw [if_neg (by omega), d]
      ·rw [if_neg d]
       by_cases d2 : t / R < i
       ·rw [if_pos d2, if_pos (by omega)]
       ·rw [if_neg d2, if_neg (by omega)]))
    refine ⟨h', S', fun J bot => ?_⟩
    rw [ze_, zvb_]
    with_reducible repeat' first | refine sbn ?_ | refine bnd (ldM3 (by assumption)) ?_ | refine bnd (zm_ _ _ _) ?_ | refine bnd (ldI0 (by assumption)) ?_ | refine bnd (ldI1 (by assumption)) ?_ | refine bnd (ldL2 (by assumption)) ?_ | refine jn ?_ | refine gp1 ?_ ?_ | refine gp2 ?_ ?_ ?_ | refine gp3 ?_ ?_ ?_ ?_ | refine bnd (ldZ0 (by assumption)) ?_ | refine bnd (ldZ1 (by assumption)) ?_ | refine bnd (ldZ2 (by assumption)) ?_ | rfl
    refine ifp (by rw [decide_eq_true_eq]; omega) ?_
    with_reducible repeat' first | refine sbn ?_ | refine bnd (ldM3 (by assumption)) ?_ | refine bnd (zm_ _ _ _) ?_ | refine bnd (ldI0 (by assumption)) ?_ | refine bnd (ldI1 (by assumption)) ?_ | refine bnd (ldL2 (by assumption)) ?_ | refine jn ?_ | refine gp1 ?_ ?_ | refine gp2 ?_ ?_ ?_ | refine gp3 ?_ ?_ ?_ ?_ | refine bnd (ldZ0 (by assumption)) ?_ | refine bnd (ldZ1 (by assumption)) ?_ | refine bnd (ldZ2 (by assumption)) ?_ | rfl
    refine ifp (by simp; omega) ?_
    with_reducible repeat' first | refine sbn ?_ | refine bnd (ldM3 (by assumption)) ?_ | refine bnd (zm_ _ _ _) ?_ | refine bnd (ldI0 (by assumption)) ?_ | refine bnd (ldI1 (by assumption)) ?_ | refine bnd (ldL2 (by assumption)) ?_ | refine jn ?_ | refine gp1 ?_ ?_ | refine gp2 ?_ ?_ ?_ | refine gp3 ?_ ?_ ?_ ?_ | refine bnd (ldZ0 (by assumption)) ?_ | refine bnd (ldZ1 (by assumption)) ?_ | refine bnd (ldZ2 (by assumption)) ?_ | rfl
    refine bnd e1 ?_
    refine ifp (by simp; omega) ?_
    with_reducible repeat' first | refine sbn ?_ | refine bnd (ldM3 (by assumption)) ?_ | refine bnd (zm_ _ _ _) ?_ | refine bnd (ldI0 (by assumption)) ?_ | refine bnd (ldI1 (by assumption)) ?_ | refine bnd (ldL2 (by assumption)) ?_ | refine jn ?_ | refine gp1 ?_ ?_ | refine gp2 ?_ ?_ ?_ | refine gp3 ?_ ?_ ?_ ?_ | refine bnd (ldZ0 (by assumption)) ?_ | refine bnd (ldZ1 (by assumption)) ?_ | refine bnd (ldZ2 (by assumption)) ?_ | rfl
    refine bnd e2 ?_
    with_reducible repeat' first | refine sbn ?_ | refine bnd (ldM3 (by assumption)) ?_ | refine bnd (zm_ _ _ _) ?_ | refine bnd (ldI0 (by assumption)) ?_ | refine bnd (ldI1 (by assumption)) ?_ | refine bnd (ldL2 (by assumption)) ?_ | refine jn ?_ | refine gp1 ?_ ?_ | refine gp2 ?_ ?_ ?_ | refine gp3 ?_ ?_ ?_ ?_ | refine bnd (ldZ0 (by assumption)) ?_ | refine bnd (ldZ1 (by assumption)) ?_ | refine bnd (ldZ2 (by assumption)) ?_ | rfl
    refine bnd e3 ?_
    with_reducible repeat' first | refine sbn ?_ | refine bnd (ldM3 (by assumption)) ?_ | refine bnd (zm_ _ _ _) ?_ | refine bnd (ldI0 (by assumption)) ?_ | refine bnd (ldI1 (by assumption)) ?_ | refine bnd (ldL2 (by assumption)) ?_ | refine jn ?_ | refine gp1 ?_ ?_ | refine gp2 ?_ ?_ ?_ | refine gp3 ?_ ?_ ?_ ?_ | refine bnd (ldZ0 (by assumption)) ?_ | refine bnd (ldZ1 (by assumption)) ?_ | refine bnd (ldZ2 (by assumption)) ?_ | rfl
    refine bnd e4 ?_
    dsimp only
    rw [w1 (by omega)]
    exact e' J bot
end
section
variable {k0 : Nat} {H0 : AHeap} {B B2 oa ol ou yb R : Nat} {s : Slc} {sp sp2 : Option Nat} {g u : Nat → Nat}
theorem zmG_ (hk : 1000 ≤ k0) (K : za_) (D : DR B B2 oa ol ou yb) (hR : R ≤ 255) : ∀ (m j : Nat) (g u : Nat → Nat) (h : AHeap), j + m = R → SR H0 B B2 oa ol ou yb R s sp sp2 g u h →
  ∃ h', Chg (fun x => x = B ∨ x = B2) H0 h' ∧ if (zt_ R R R m j j g u).1 < R then ∀ J bot, zh_ bot (m + 1) (zP_ k0 K J) (some ⟨oa, 0, none⟩) (some ⟨yb, 0, none⟩) (some ⟨ol, 0, none⟩) (some ⟨ou, 0, none⟩) (j : Int) h = some (((0, 0, nilS), 40), h')
   else SR H0 B B2 oa ol ou yb R s sp sp2 (zt_ R R R m j j g u).2.1 (zt_ R R R m j j g u).2.2 h' ∧ ∀ J bot, zh_ bot (m + 1) (zP_ k0 K J) (some ⟨oa, 0, none⟩) (some ⟨yb, 0, none⟩) (some ⟨ol, 0, none⟩) (some ⟨ou, 0, none⟩) (j : Int) h = J (some ⟨yb, 0, none⟩) (some ⟨ou, 0, none⟩) h' := by
 intro m
 have hs : R * R ≤ 100000 := Nat.le_trans (Nat.mul_le_mul hR hR) (by omega)
 induction m with
 | zero =>
  intro j g u h hj S
  obtain rfl : j = R := by omega
  refine ⟨h, S.ch, ?_⟩
  rw [if_neg (show ¬ (zt_ j j j 0 j j g u).1 < j from Nat.lt_irrefl _)]
  refine ⟨S, fun J bot => ?_⟩
  have ca := S.ca
  rw [ze_, zP_]
  with_reducible repeat' first | refine sbn ?_ | refine bnd (ldM3 (by assumption)) ?_ | refine bnd (zm_ _ _ _) ?_ | refine bnd (ldI0 (by assumption)) ?_ | refine bnd (ldI1 (by assumption)) ?_ | refine bnd (ldL2 (by assumption)) ?_ | refine jn ?_ | refine gp1 ?_ ?_ | refine gp2 ?_ ?_ ?_ | refine gp3 ?_ ?_ ?_ ?_ | refine bnd (ldZ0 (by assumption)) ?_ | refine bnd (ldZ1 (by assumption)) ?_ | refine bnd (ldZ2 (by assumption)) ?_ | rfl
  exact ifn (by rw [decide_eq_true_eq]; omega) rfl
 | succ m ih =>
  intro j g u h hj S
  have hj' : j < R := by omega
  have hR0 : 0 < R := by omega
  have ca := S.ca
  have cl := S.cl
  obtain ⟨h1, e1, k1⟩ := zZy_ hk K (sp := sp) S.a hj' hR hs (show j ≤ R by omega)
  have S1 := S.keeps k1
  have cy1 := S1.cy
  have cl1 := S1.cl
  obtain ⟨l, hl⟩ : ∃ l, l = zdb_ R j g (R - j) j := ⟨_, rfl⟩
  have hle := zak_ R j g (R - j) j
  rw [← hl] at e1 hle
  by_cases c1 : l = R
  ·have es : (zt_ R R R (m + 1) j j g u).1 < R := by
    simp only [zt_]
    rw [if_pos hj', ← hl, if_pos c1]
    have := zPk_ R R R m (j + 1) j g u
    omega
   refine ⟨h1, S1.ch, ?_⟩
   rw [if_pos es]
   intro J bot
   rw [if_pos c1] at e1
   rw [ze_, zP_]
   with_reducible repeat' first | refine sbn ?_ | refine bnd (ldM3 (by assumption)) ?_ | refine bnd (zm_ _ _ _) ?_ | refine bnd (ldI0 (by assumption)) ?_ | refine bnd (ldI1 (by assumption)) ?_ | refine bnd (ldL2 (by assumption)) ?_ | refine jn ?_ | refine gp1 ?_ ?_ | refine gp2 ?_ ?_ ?_ | refine gp3 ?_ ?_ ?_ ?_ | refine bnd (ldZ0 (by assumption)) ?_ | refine bnd (ldZ1 (by assumption)) ?_ | refine bnd (ldZ2 (by assumption)) ?_ | rfl
   refine ifp (by rw [decide_eq_true_eq]; omega) ?_
   with_reducible repeat' first | refine sbn ?_ | refine bnd (ldM3 (by assumption)) ?_ | refine bnd (zm_ _ _ _) ?_ | refine bnd (ldI0 (by assumption)) ?_ | refine bnd (ldI1 (by assumption)) ?_ | refine bnd (ldL2 (by assumption)) ?_ | refine jn ?_ | refine gp1 ?_ ?_ | refine gp2 ?_ ?_ ?_ | refine gp3 ?_ ?_ ?_ ?_ | refine bnd (ldZ0 (by assumption)) ?_ | refine bnd (ldZ1 (by assumption)) ?_ | refine bnd (ldZ2 (by assumption)) ?_ | rfl
   refine bnd e1 (ifp rfl ?_)
   exact zfin cy1 fun x h => some ((x, (40 : Int)), h)
  ·rw [if_neg c1] at e1
   have es : zt_ R R R (m + 1) j j g u = zt_ R R R m (j + 1) (j + 1) (zgg_ R j l j g) (zjg_ R R j l j g u) := by
    simp only [zt_]
    rw [if_pos hj', ← hl, if_neg c1]
   have hlR : l < R := by omega
   obtain ⟨h2, e2, m2, c2⟩ := zqr_ hk K (sp := sp) S1.a hR0 hR hs hlR hj'
   have S2 := S1.opA D m2 c2
   have cu2 := S2.cu
   obtain ⟨h3, e3, m3, c3⟩ := zqr_ hk K (sp := sp2) S2.b hR0 hR hs hlR hj'
   have S3 := S2.opB D m3 c3
   have cl3 := S3.cl
   obtain ⟨h4, e4, k4⟩ := zhC_ S3.a (sp := sp) k0 K hj' hj' hs
   have S4 := S3.keeps k4
   have cl4 := S4.cl
   have pj := zQ_ (c := R) hj'
   obtain ⟨p, hp⟩ : ∃ p, p = zE_ R l j g (j * R + j) := ⟨_, rfl⟩
   have plt : p < 256 := by rw [hp]; exact S3.a.el _ (by omega)
   have pne : p ≠ 0 := by
    have := zOn_ R j g (R - j) j (by omega)
    rw [← hl] at this
    rw [hp]
    unfold zE_
    rw [zU_ hj', zV_ hj']
    by_cases e : j = l
    ·rw [if_pos e]; rw [← e] at this; exact this
    ·rw [if_neg e, if_pos rfl]; exact this
   have e5 := zFs_ (k := k0) (by omega) K (a := 1) (by omega) plt pne h4
   rw [← hp] at e4
   obtain ⟨h6, e6, m6, c6⟩ := zXp_ hk K (sp := sp) S4.a hR0 hR hs hj' (zfd_ (x := 1) (y := p))
   have S6 := S4.opA D m6 c6
   have cu6 := S6.cu
   obtain ⟨h7, e7, m7, c7⟩ := zXp_ hk K (sp := sp2) S6.b hR0 hR hs hj' (zfd_ (x := 1) (y := p))
   have S7 := (S6.opB D m7 c7).congr (znA_ S4.a.el plt pne) (znA_ S4.b.el plt pne)
   obtain ⟨h8, S8, e8⟩ := zOF_ hk K D hR (g := divR R j p (zE_ R l j g)) (u := divR R j p (zE_ R l j u)) hj' R 0 h7 (by omega) (S7.congr (fun t _ => by unfold zUb_; rw [if_neg (Nat.not_lt_zero _)]) (fun t _ => by unfold zod_; rw [if_neg (Nat.not_lt_zero _)]))
   have eg : zVc_ R j j (divR R j p (zE_ R l j g)) = zgg_ R j l j g := by rw [hp]; rfl
   have eu : zSc_ R R j j (divR R j p (zE_ R l j g)) (divR R j p (zE_ R l j u)) = zjg_ R R j l j g u := by rw [hp]; rfl
   rw [eg, eu] at S8
   obtain ⟨h', c', e'⟩ := ih (j + 1) _ _ h8 (by omega) S8
   have step : ∀ J bot, zh_ bot (m + 1 + 1) (zP_ k0 K J) (some ⟨oa, 0, none⟩) (some ⟨yb, 0, none⟩) (some ⟨ol, 0, none⟩) (some ⟨ou, 0, none⟩) (j : Int) h = zh_ bot (m + 1) (zP_ k0 K J) (some ⟨oa, 0, none⟩) (some ⟨yb, 0, none⟩) (some ⟨ol, 0, none⟩) (some ⟨ou, 0, none⟩) ((j + 1 : Nat) : Int) h8 := fun J bot => by
    rw [ze_, zP_]
    with_reducible repeat' first | refine sbn ?_ | refine bnd (ldM3 (by assumption)) ?_ | refine bnd (zm_ _ _ _) ?_ | refine bnd (ldI0 (by assumption)) ?_ | refine bnd (ldI1 (by assumption)) ?_ | refine bnd (ldL2 (by assumption)) ?_ | refine jn ?_ | refine gp1 ?_ ?_ | refine gp2 ?_ ?_ ?_ | refine gp3 ?_ ?_ ?_ ?_ | refine bnd (ldZ0 (by assumption)) ?_ | refine bnd (ldZ1 (by assumption)) ?_ | refine bnd (ldZ2 (by assumption)) ?_ | rfl
    refine ifp (by rw [decide_eq_true_eq]; omega) ?_
    with_reducible repeat' first | refine sbn ?_ | refine bnd (ldM3 (by assumption)) ?_ | refine bnd (zm_ _ _ _) ?_ | refine bnd (ldI0 (by assumption)) ?_ | refine bnd (ldI1 (by assumption)) ?_ | refine bnd (ldL2 (by assumption)) ?_ | refine jn ?_ | refine gp1 ?_ ?_ | refine gp2 ?_ ?_ ?_ | refine gp3 ?_ ?_ ?_ ?_ | refine bnd (ldZ0 (by assumption)) ?_ | refine bnd (ldZ1 (by assumption)) ?_ | refine bnd (ldZ2 (by assumption)) ?_ | rfl
    refine bnd e1 (ifn (by simp) ?_)
    with_reducible repeat' first | refine sbn ?_ | refine bnd (ldM3 (by assumption)) ?_ | refine bnd (zm_ _ _ _) ?_ | refine bnd (ldI0 (by assumption)) ?_ | refine bnd (ldI1 (by assumption)) ?_ | refine bnd (ldL2 (by assumption)) ?_ | refine jn ?_ | refine gp1 ?_ ?_ | refine gp2 ?_ ?_ ?_ | refine gp3 ?_ ?_ ?_ ?_ | refine bnd (ldZ0 (by assumption)) ?_ | refine bnd (ldZ1 (by assumption)) ?_ | refine bnd (ldZ2 (by assumption)) ?_ | rfl
    refine bnd e2 ?_
    with_reducible repeat' first | refine sbn ?_ | refine bnd (ldM3 (by assumption)) ?_ | refine bnd (zm_ _ _ _) ?_ | refine bnd (ldI0 (by assumption)) ?_ | refine bnd (ldI1 (by assumption)) ?_ | refine bnd (ldL2 (by assumption)) ?_ | refine jn ?_ | refine gp1 ?_ ?_ | refine gp2 ?_ ?_ ?_ | refine gp3 ?_ ?_ ?_ ?_ | refine bnd (ldZ0 (by assumption)) ?_ | refine bnd (ldZ1 (by assumption)) ?_ | refine bnd (ldZ2 (by assumption)) ?_ | rfl
    refine bnd e3 ?_
    with_reducible repeat' first | refine sbn ?_ | refine bnd (ldM3 (by assumption)) ?_ | refine bnd (zm_ _ _ _) ?_ | refine bnd (ldI0 (by assumption)) ?_ | refine bnd (ldI1 (by assumption)) ?_ | refine bnd (ldL2 (by assumption)) ?_ | refine jn ?_ | refine gp1 ?_ ?_ | refine gp2 ?_ ?_ ?_ | refine gp3 ?_ ?_ ?_ ?_ | refine bnd (ldZ0 (by assumption)) ?_ | refine bnd (ldZ1 (by assumption)) ?_ | refine bnd (ldZ2 (by assumption)) ?_ | rfl
    refine bnd e4 (bnd e5 ?_)
    with_reducible repeat' first | refine sbn ?_ | refine bnd (ldM3 (by assumption)) ?_ | refine bnd (zm_ _ _ _) ?_ | refine bnd (ldI0 (by assumption)) ?_ | refine bnd (ldI1 (by assumption)) ?_ | refine bnd (ldL2 (by assumption)) ?_ | refine jn ?_ | refine gp1 ?_ ?_ | refine gp2 ?_ ?_ ?_ | refine gp3 ?_ ?_ ?_ ?_ | refine bnd (ldZ0 (by assumption)) ?_ | refine bnd (ldZ1 (by assumption)) ?_ | refine bnd (ldZ2 (by assumption)) ?_ | rfl
    refine bnd e6 ?_
    with_reducible repeat' first | refine sbn ?_ | refine bnd (ldM3 (by assumption)) ?_ | refine bnd (zm_ _ _ _) ?_ | refine bnd (ldI0 (by assumption)) ?_ | refine bnd (ldI1 (by assumption)) ?_ | refine bnd (ldL2 (by assumption)) ?_ | refine jn ?_ | refine gp1 ?_ ?_ | refine gp2 ?_ ?_ ?_ | refine gp3 ?_ ?_ ?_ ?_ | refine bnd (ldZ0 (by assumption)) ?_ | refine bnd (ldZ1 (by assumption)) ?_ | refine bnd (ldZ2 (by assumption)) ?_ | rfl
    refine bnd e7 ?_
    unfold zzk_
    obtain ⟨bot1, hbot1⟩ := zp_ (fun _ _ _ _ _ _ _ => none) (zvb_ k0 K _) (show R + 1 ≤ k0 by omega)
    rw [hbot1]
    refine (e8 _ bot1).trans ?_
    rw [w1 (by omega)]
   refine ⟨h', c', ?_⟩
   rw [es]
   by_cases c2 : (zt_ R R R m (j + 1) (j + 1) (zgg_ R j l j g) (zjg_ R R j l j g u)).1 < R
   ·rw [if_pos c2] at e' ⊢
    exact fun J bot => (step J bot).trans (e' J bot)
   ·rw [if_neg c2] at e' ⊢
    exact ⟨e'.1, fun J bot => (step J bot).trans (e'.2 J bot)⟩
end
theorem zjw_ {k0 : Nat} (hk : 200000 ≤ k0) (D : za_) {h : AHeap} {r c : Int} {s : Slc} {xs : List Int} (I : Row encI h s xs) (hl : xs.length ≤ 100000) :
  ∃ h' res, zZb_ k0 D (r, c, s) h = some (res, h') ∧ Out h h' res (invP r c xs) ∧ zb_ h h' := by
 obtain ⟨g1, hg1⟩ : ∃ g1, g1 = h.new (.cells [.int .i64 r, .int .i64 c, .slice s.a s.len s.cap] 97 true 0) := ⟨_, rfl⟩
 have k1 : zb_ h g1 := hg1 ▸ zb_.new h _
 have n1 : g1.next = h.next + 1 := by rw [hg1]; rfl
 obtain ⟨g2, hg2⟩ : ∃ g2, g2 = g1.new (.cells [.int .i64 0, .int .i64 0, .slice none 0 0] 97 true 0) := ⟨_, rfl⟩
 have k2 : zb_ g1 g2 := hg2 ▸ zb_.new g1 _
 have n2 : g2.next = g1.next + 1 := by rw [hg2]; rfl
 have k02 := k1.trans k2
 have a2 : g2.get h.next = some (.cells (zg_ r c s) 97 true 0) := by rw [k2.oth _ (by omega) (fun f => f), hg1]; simp [zg_]
 have y2 : g2.get g1.next = some (.cells (zg_ 0 0 nilS) 97 true 0) := by rw [hg2]; simp [zg_, nilS]
 obtain ⟨g3, e3, k3⟩ := zop_ (k0 := k0) D (r := r) (c := c) (I.keeps k02) (by omega) (by omega)
 have k03 := k02.trans k3
 have a3 : g3.get h.next = some (.cells (zg_ r c s) 97 true 0) := by rw [k3.oth _ (by omega) (fun f => f)]; exact a2
 have y3 : g3.get g1.next = some (.cells (zg_ 0 0 nilS) 97 true 0) := by rw [k3.oth _ (by omega) (fun f => f)]; exact y2
 have nx3 := k3.nx
 by_cases ec : chk r c xs = 0
 ·by_cases es : r = c
  ·subst es
   obtain ⟨R, R', g, rfl, eR, hR1, hR2, hC1, hC2, hxs, hel⟩ := zls_ ec
   obtain rfl : R = R' := by omega
   have hN : R * R ≠ 0 := by have := Nat.mul_pos hR1 hR1; omega
   have hN2 : R * R ≤ 100000 := Nat.le_trans (Nat.mul_le_mul hR2 hR2) (by omega)
   have I3 := I.keeps k03
   rw [hxs] at I3
   obtain ⟨g4, B, e4, k4, nB, m4⟩ := zMz_ (k0 := k0) (R := R) (C := R) D I3 hN hN2 hel
   have nx4 := k4.nx
   obtain ⟨g5, st5, k5, n5, b5⟩ := mvar (h := g4) (e := 97) (r := (R : Int)) (c := (R : Int)) (s := zk_ B (R * R) (some 2))
   obtain ⟨g6, OB, e6, M6⟩ := zoD_ (show 1000 ≤ k0 by omega) D (h := g5) (n := R) hR1 hR2
   have k6 := M6.ch
   have nx6 := k6.nx
   have nb6 := M6.nb
   have lb6 := M6.lb
   obtain ⟨g7, st7, k7, n7, b7⟩ := mvar (h := g6) (e := 97) (r := (R : Int)) (c := (R : Int)) (s := zk_ OB (R * R))
   have k37 := ((k4.trans k5).trans k6).trans k7
   have lm := m4.lt
   have o6 : Mx g6 OB (R * R) (oneN R) := ⟨by rw [M6.blk]; unfold matN; rw [zYb_ fun t _ => ziD_ R t], M6.lb, fun t _ => by unfold oneN; split <;> omega⟩
   have S7 : SR g7 B OB h.next g4.next g6.next g1.next R s (some 2) (some 0) g (oneN R) g7 :=
    ⟨((m4.keeps k5).keeps k6).keeps k7, o6.keeps k7, by rw [k37.oth _ (by omega) (fun f => f)]; exact a3, by rw [(k6.trans k7).oth _ (by omega) (fun f => f)]; exact b5, b7, by rw [k37.oth _ (by omega) (fun f => f)]; exact y3,
     by omega, by omega, by omega, by omega, .refl _ _⟩
   have DD' : DR B OB h.next g4.next g6.next g1.next := ⟨by omega, by omega, by omega, by omega, by omega, by omega, by omega, by omega, by omega⟩
   obtain ⟨g8, c8, e8⟩ := zmG_ (show 1000 ≤ k0 by omega) D DD' hR2 R 0 g (oneN R) g7 (by omega) S7
   obtain ⟨st, hst⟩ : ∃ st, st = zt_ R R R R 0 0 g (oneN R) := ⟨_, rfl⟩
   rw [← hst] at e8
   have sc := zug_ (R := R) hR1 hR1 R 0 0 (g := zI_ xs) (g' := g) (u := oneN R) (u' := oneN R) (by omega) (by omega) (fun t ht => by rw [hxs]; exact zWg_ ht) (fun _ _ => rfl)
   rw [← hst] at sc
   have nx8 := c8.nx
   have c08 : zb_ h g8 := (k03.trans k37).beh c8 fun x hx e => by rcases e with e | e <;> omega
   by_cases cr : st.1 < R
   ·rw [if_pos cr] at e8
    refine ⟨g8, ((0, 0, nilS), 40), ?_, ?_, c08⟩
    ·unfold zZb_
     dsimp only
     rw [← hg1, ← hg2]
     with_reducible repeat' first | refine sbn ?_ | refine bnd (ldM3 (by assumption)) ?_ | refine bnd (zm_ _ _ _) ?_ | refine bnd (ldI0 (by assumption)) ?_ | refine bnd (ldI1 (by assumption)) ?_ | refine bnd (ldL2 (by assumption)) ?_ | refine jn ?_ | refine gp1 ?_ ?_ | refine gp2 ?_ ?_ ?_ | refine gp3 ?_ ?_ ?_ ?_ | refine bnd (ldZ0 (by assumption)) ?_ | refine bnd (ldZ1 (by assumption)) ?_ | refine bnd (ldZ2 (by assumption)) ?_ | rfl
     refine bnd e3 (ifn (by simp [ec]) ?_)
     with_reducible repeat' first | refine sbn ?_ | refine bnd (ldM3 (by assumption)) ?_ | refine bnd (zm_ _ _ _) ?_ | refine bnd (ldI0 (by assumption)) ?_ | refine bnd (ldI1 (by assumption)) ?_ | refine bnd (ldL2 (by assumption)) ?_ | refine jn ?_ | refine gp1 ?_ ?_ | refine gp2 ?_ ?_ ?_ | refine gp3 ?_ ?_ ?_ ?_ | refine bnd (ldZ0 (by assumption)) ?_ | refine bnd (ldZ1 (by assumption)) ?_ | refine bnd (ldZ2 (by assumption)) ?_ | rfl
     refine ifn (by simp) ?_
     with_reducible repeat' first | refine sbn ?_ | refine bnd (ldM3 (by assumption)) ?_ | refine bnd (zm_ _ _ _) ?_ | refine bnd (ldI0 (by assumption)) ?_ | refine bnd (ldI1 (by assumption)) ?_ | refine bnd (ldL2 (by assumption)) ?_ | refine jn ?_ | refine gp1 ?_ ?_ | refine gp2 ?_ ?_ ?_ | refine gp3 ?_ ?_ ?_ ?_ | refine bnd (ldZ0 (by assumption)) ?_ | refine bnd (ldZ1 (by assumption)) ?_ | refine bnd (ldZ2 (by assumption)) ?_ | rfl
     refine bnd e4 (bnd st5 ?_)
     have b5a : g5.get h.next = some (.cells (zg_ R R s) 97 true 0) := by rw [(k4.trans k5).oth _ (by omega) (fun f => f)]; exact a3
     with_reducible repeat' first | refine sbn ?_ | refine bnd (ldM3 (by assumption)) ?_ | refine bnd (zm_ _ _ _) ?_ | refine bnd (ldI0 (by assumption)) ?_ | refine bnd (ldI1 (by assumption)) ?_ | refine bnd (ldL2 (by assumption)) ?_ | refine jn ?_ | refine gp1 ?_ ?_ | refine gp2 ?_ ?_ ?_ | refine gp3 ?_ ?_ ?_ ?_ | refine bnd (ldZ0 (by assumption)) ?_ | refine bnd (ldZ1 (by assumption)) ?_ | refine bnd (ldZ2 (by assumption)) ?_ | rfl
     refine bnd e6 (bnd st7 ?_)
     with_reducible repeat' first | refine sbn ?_ | refine bnd (ldM3 (by assumption)) ?_ | refine bnd (zm_ _ _ _) ?_ | refine bnd (ldI0 (by assumption)) ?_ | refine bnd (ldI1 (by assumption)) ?_ | refine bnd (ldL2 (by assumption)) ?_ | refine jn ?_ | refine gp1 ?_ ?_ | refine gp2 ?_ ?_ ?_ | refine gp3 ?_ ?_ ?_ ?_ | refine bnd (ldZ0 (by assumption)) ?_ | refine bnd (ldZ1 (by assumption)) ?_ | refine bnd (ldZ2 (by assumption)) ?_ | rfl
     unfold zTg_
     obtain ⟨bot, hbot⟩ := zp_ (fun _ _ _ _ _ _ => none) (zP_ k0 D _) (show R + 1 ≤ k0 by omega)
     rw [hbot]
     exact e8 _ bot
    ·unfold invP
     rw [if_neg (fun h => h ec), if_neg (fun h => h rfl)]
     dsimp only
     rw [if_pos (show (zt_ (R : Int).toNat (R : Int).toNat (R : Int).toNat (R : Int).toNat 0 0 (zI_ xs) (oneN (R : Int).toNat)).1 < (R : Int).toNat from by rw [Int.toNat_natCast, sc.1]; exact cr)]
     exact Out.no _
   ·rw [if_neg cr] at e8
    obtain ⟨S8, e8⟩ := e8
    have cu8 := S8.cu
    have cy8 := S8.cy
    refine ⟨g8.set g1.next (.cells (zg_ R R (zk_ OB (R * R))) 97 true 0), ((R, R, zk_ OB (R * R)), 0), ?_, ?_, c08.beh (T := (· = g1.next)) (Chg.set (.inr rfl)) fun x hx e => by
     have e : x = g1.next := e
     omega⟩
    ·unfold zZb_
     dsimp only
     rw [← hg1, ← hg2]
     with_reducible repeat' first | refine sbn ?_ | refine bnd (ldM3 (by assumption)) ?_ | refine bnd (zm_ _ _ _) ?_ | refine bnd (ldI0 (by assumption)) ?_ | refine bnd (ldI1 (by assumption)) ?_ | refine bnd (ldL2 (by assumption)) ?_ | refine jn ?_ | refine gp1 ?_ ?_ | refine gp2 ?_ ?_ ?_ | refine gp3 ?_ ?_ ?_ ?_ | refine bnd (ldZ0 (by assumption)) ?_ | refine bnd (ldZ1 (by assumption)) ?_ | refine bnd (ldZ2 (by assumption)) ?_ | rfl
     refine bnd e3 (ifn (by simp [ec]) ?_)
     with_reducible repeat' first | refine sbn ?_ | refine bnd (ldM3 (by assumption)) ?_ | refine bnd (zm_ _ _ _) ?_ | refine bnd (ldI0 (by assumption)) ?_ | refine bnd (ldI1 (by assumption)) ?_ | refine bnd (ldL2 (by assumption)) ?_ | refine jn ?_ | refine gp1 ?_ ?_ | refine gp2 ?_ ?_ ?_ | refine gp3 ?_ ?_ ?_ ?_ | refine bnd (ldZ0 (by assumption)) ?_ | refine bnd (ldZ1 (by assumption)) ?_ | refine bnd (ldZ2 (by assumption)) ?_ | rfl
     refine ifn (by simp) ?_
     with_reducible repeat' first | refine sbn ?_ | refine bnd (ldM3 (by assumption)) ?_ | refine bnd (zm_ _ _ _) ?_ | refine bnd (ldI0 (by assumption)) ?_ | refine bnd (ldI1 (by assumption)) ?_ | refine bnd (ldL2 (by assumption)) ?_ | refine jn ?_ | refine gp1 ?_ ?_ | refine gp2 ?_ ?_ ?_ | refine gp3 ?_ ?_ ?_ ?_ | refine bnd (ldZ0 (by assumption)) ?_ | refine bnd (ldZ1 (by assumption)) ?_ | refine bnd (ldZ2 (by assumption)) ?_ | rfl
     refine bnd e4 (bnd st5 ?_)
     have b5a : g5.get h.next = some (.cells (zg_ R R s) 97 true 0) := by rw [(k4.trans k5).oth _ (by omega) (fun f => f)]; exact a3
     with_reducible repeat' first | refine sbn ?_ | refine bnd (ldM3 (by assumption)) ?_ | refine bnd (zm_ _ _ _) ?_ | refine bnd (ldI0 (by assumption)) ?_ | refine bnd (ldI1 (by assumption)) ?_ | refine bnd (ldL2 (by assumption)) ?_ | refine jn ?_ | refine gp1 ?_ ?_ | refine gp2 ?_ ?_ ?_ | refine gp3 ?_ ?_ ?_ ?_ | refine bnd (ldZ0 (by assumption)) ?_ | refine bnd (ldZ1 (by assumption)) ?_ | refine bnd (ldZ2 (by assumption)) ?_ | rfl
     refine bnd e6 (bnd st7 ?_)
     with_reducible repeat' first | refine sbn ?_ | refine bnd (ldM3 (by assumption)) ?_ | refine bnd (zm_ _ _ _) ?_ | refine bnd (ldI0 (by assumption)) ?_ | refine bnd (ldI1 (by assumption)) ?_ | refine bnd (ldL2 (by assumption)) ?_ | refine jn ?_ | refine gp1 ?_ ?_ | refine gp2 ?_ ?_ ?_ | refine gp3 ?_ ?_ ?_ ?_ | refine bnd (ldZ0 (by assumption)) ?_ | refine bnd (ldZ1 (by assumption)) ?_ | refine bnd (ldZ2 (by assumption)) ?_ | rfl
     unfold zTg_
     obtain ⟨bot, hbot⟩ := zp_ (fun _ _ _ _ _ _ => none) (zP_ k0 D _) (show R + 1 ≤ k0 by omega)
     rw [hbot]
     refine (e8 _ bot).trans ?_
     exact yfin cu8 cy8 fun x h => some ((x, (0 : Int)), h)
    ·unfold invP
     rw [if_neg (fun h => h ec), if_neg (fun h => h rfl)]
     dsimp only
     rw [if_neg (show ¬ (zt_ (R : Int).toNat (R : Int).toNat (R : Int).toNat (R : Int).toNat 0 0 (zI_ xs) (oneN (R : Int).toNat)).1 < (R : Int).toNat from by rw [Int.toNat_natCast, sc.1]; exact cr)]
     simp only [Int.toNat_natCast]
     have u9 : Mx (g8.set g1.next (.cells (zg_ R R (zk_ OB (R * R))) 97 true 0)) OB (R * R) st.2.2 := S8.b.chg (S := (· = g1.next)) (Chg.set (.inr rfl)) (by omega)
     exact ⟨rfl, rfl, rfl, (u9.congr fun t ht => (sc.2.2 t ht).symm).inM (sp := some 0) rfl, zPo_ (by omega)⟩
  ·refine ⟨g3, ((0, 0, nilS), 4), ?_, ?_, k03⟩
   ·unfold zZb_
    dsimp only
    rw [← hg1, ← hg2]
    with_reducible repeat' first | refine sbn ?_ | refine bnd (ldM3 (by assumption)) ?_ | refine bnd (zm_ _ _ _) ?_ | refine bnd (ldI0 (by assumption)) ?_ | refine bnd (ldI1 (by assumption)) ?_ | refine bnd (ldL2 (by assumption)) ?_ | refine jn ?_ | refine gp1 ?_ ?_ | refine gp2 ?_ ?_ ?_ | refine gp3 ?_ ?_ ?_ ?_ | refine bnd (ldZ0 (by assumption)) ?_ | refine bnd (ldZ1 (by assumption)) ?_ | refine bnd (ldZ2 (by assumption)) ?_ | rfl
    refine bnd e3 (ifn (by simp [ec]) ?_)
    with_reducible repeat' first | refine sbn ?_ | refine bnd (ldM3 (by assumption)) ?_ | refine bnd (zm_ _ _ _) ?_ | refine bnd (ldI0 (by assumption)) ?_ | refine bnd (ldI1 (by assumption)) ?_ | refine bnd (ldL2 (by assumption)) ?_ | refine jn ?_ | refine gp1 ?_ ?_ | refine gp2 ?_ ?_ ?_ | refine gp3 ?_ ?_ ?_ ?_ | refine bnd (ldZ0 (by assumption)) ?_ | refine bnd (ldZ1 (by assumption)) ?_ | refine bnd (ldZ2 (by assumption)) ?_ | rfl
    refine ifp (by simpa using es) ?_
    exact zfin y3 fun x h => some ((x, (4 : Int)), h)
   ·unfold invP
    rw [if_neg (fun h => h ec), if_pos es]
    exact Out.no _
 ·refine ⟨g3, ((0, 0, nilS), chk r c xs), ?_, ?_, k03⟩
  ·unfold zZb_
   dsimp only
   rw [← hg1, ← hg2]
   with_reducible repeat' first | refine sbn ?_ | refine bnd (ldM3 (by assumption)) ?_ | refine bnd (zm_ _ _ _) ?_ | refine bnd (ldI0 (by assumption)) ?_ | refine bnd (ldI1 (by assumption)) ?_ | refine bnd (ldL2 (by assumption)) ?_ | refine jn ?_ | refine gp1 ?_ ?_ | refine gp2 ?_ ?_ ?_ | refine gp3 ?_ ?_ ?_ ?_ | refine bnd (ldZ0 (by assumption)) ?_ | refine bnd (ldZ1 (by assumption)) ?_ | refine bnd (ldZ2 (by assumption)) ?_ | rfl
   refine bnd e3 (ifp (by simpa using ec) ?_)
   exact zfin y3 fun x h => some ((x, chk r c xs), h)
  ·unfold invP
   rw [if_pos ec]
   exact Out.no _
end Gz
namespace Gz
open Go Gx
theorem zBp_ (n : Int) (h₀ : 0 ≤ n) (h₁ : n < 2 ^ 32) : IntKind.u32.wrap n = n := by rw [Go.IntKind.wrap_u32]; omega
theorem zFw_ {a b : Nat} (ha : a < 2 ^ 32) (hb : b < 2 ^ 32) : Go.bits .xor .u32 (a : Int) (b : Int) = ((a ^^^ b : Nat) : Int) := bx .u32 32 (by decide) zBp_ a b ha hb
theorem zwH_ {a b : Nat} (ha : a < 2 ^ 32) (hb : b < 2 ^ 32) : Go.bits .and .u32 (a : Int) (b : Int) = ((a &&& b : Nat) : Int) := (bits_nat .u32 32 (by decide) zBp_ a b ha hb).1
def zWj_ (r : Nat) : Nat := if r % 2 = 1 then (r / 2) ^^^ 2197175160 else r / 2
def zUj_ : Nat → Nat → Nat
 | 0, r => r
 | n + 1, r => zUj_ n (zWj_ r)
def crcN (r : Nat) : List UInt8 → Nat
 | [] => r
 | c :: l => crcN (zUj_ 8 (r ^^^ c.toNat)) l
def crc (l : List UInt8) : Nat := crcN 4294967295 l ^^^ 4294967295
theorem zJv_ {r : Nat} (h : r < 4294967296) : zWj_ r < 4294967296 := by
 unfold zWj_
 split
 ·exact Nat.xor_lt_two_pow (n := 32) (by omega) (by decide)
 ·omega
theorem zTm_ : ∀ (n : Nat) {r : Nat}, r < 4294967296 → zUj_ n r < 4294967296
 | 0, _, h => h
 | n + 1, _, h => zTm_ n (zJv_ h)
theorem zFA_ (c : UInt8) : c.toNat < 256 := UInt8.toNat_lt c
theorem zGu_ {r : Nat} (c : UInt8) (h : r < 4294967296) : r ^^^ c.toNat < 4294967296 := Nat.xor_lt_two_pow (n := 32) h (by have := zFA_ c; omega)
theorem zku_ : ∀ (l : List UInt8) {r : Nat}, r < 4294967296 → crcN r l < 4294967296
 | [], _, h => h
 | c :: l, _, h => zku_ l (zTm_ 8 (zGu_ c h))
theorem zHG_ (l : List UInt8) : crc l < 4294967296 := Nat.xor_lt_two_pow (n := 32) (zku_ l (by decide)) (by decide)
theorem zfG_ {r : Nat} (h : r < 4294967296) :
  Go.bits .xor .u32 (Int.fdiv (r : Int) 2) (Go.bits .and .u32 2197175160 (IntKind.wrap .u32 (0 - Go.bits .and .u32 (r : Int) 1))) = (zWj_ r : Int) := by
 have e1 : Go.bits .and .u32 (r : Int) 1 = ((r % 2 : Nat) : Int) := by
  have := zwH_ (a := r) (b := 1) h (by decide)
  rw [Nat.and_one_is_mod] at this
  exact this
 have e2 : Int.fdiv (r : Int) 2 = ((r / 2 : Nat) : Int) := by
  rw [Int.fdiv_eq_ediv_of_nonneg _ (by decide)]; simp
 rw [e1, e2]
 unfold zWj_
 rcases Nat.mod_two_eq_zero_or_one r with h0 | h1
 ·rw [h0]
  have : Go.bits .and .u32 2197175160 (IntKind.wrap .u32 (0 - ((0 : Nat) : Int))) = ((0 : Nat) : Int) := by decide +kernel
  rw [this, zFw_ (by omega) (by decide)]
  simp
 ·rw [h1]
  have : Go.bits .and .u32 2197175160 (IntKind.wrap .u32 (0 - ((1 : Nat) : Int))) = ((2197175160 : Nat) : Int) := by decide +kernel
  rw [this, zFw_ (by omega) (by decide)]
  simp
theorem zaG_ {r : Nat} (h : r < 4294967296) : Go.bits .xor .u32 (IntKind.max .u32) (r : Int) = ((r ^^^ 4294967295 : Nat) : Int) := by
 have e : IntKind.max .u32 = ((4294967295 : Nat) : Int) := by decide +kernel
 rw [e, zFw_ (by decide) h, Nat.xor_comm]
end Gz
namespace Gz
open Go Gx Go.Proofs
theorem zAC_ (K : Nat) (D : za_) (j) (bot) (y : Slc) (n i0 : Int) (h : AHeap) : ∀ (m i r : Nat), i + m = 8 → r < 4294967296 →
  zh_ bot (m + 1) (zdf_ K D j) (r : Int) y n i0 (i : Int) h = j (zUj_ m r : Nat) y n i0 h
 | 0, i, r, hi, hr => by
  obtain rfl : i = 8 := by omega
  rw [ze_]; simp only [zdf_]
  exact ifn (by decide) rfl
 | m + 1, i, r, hi, hr => by
  rw [ze_]; simp only [zdf_]
  refine ifp (by simp; omega) ?_
  rw [zfG_ hr, w1 (by omega), show zUj_ (m + 1) r = zUj_ m (zWj_ r) from rfl]
  exact zAC_ K D j bot y n i0 h m (i + 1) (zWj_ r) (by omega) (zJv_ hr)
theorem zJD_ {k : Nat} (hk : 9 ≤ k) (D : za_) (j) (bot) {h : AHeap} {b : Nat} {l : List UInt8} {e : TypeId} {rw' : Bool} {fz cap : Nat} {sp : Option Nat} (hb : h.get b = some (.cells (l.map encB) e rw' fz)) (hs : l.length < 9223372036854775807) : ∀ (m i r : Nat), i + m = l.length → r < 4294967296 →
  zh_ bot (m + 1) (zGc_ k D j) (r : Int) (⟨some ⟨b, 0, sp⟩, l.length, cap⟩ : Slc) (l.length : Int) (i : Int) h = j (crcN r (l.drop i) : Nat) h
 | 0, i, r, hi, hr => by
  obtain rfl : i = l.length := by omega
  rw [ze_]; simp only [zGc_]
  refine ifn (by simp) ?_
  rw [List.drop_length]; rfl
 | m + 1, i, r, hi, hr => by
  rw [ze_]; simp only [zGc_]
  refine ifp (by simp; omega) ?_
  obtain ⟨x, hx⟩ := zy_ (l := l) (i := i) (by omega)
  refine jn ?_
  refine bnd (zki_ (by omega)) ?_
  refine bnd (zHA_ hb hx) ?_
  have hx' := zFA_ x
  have e1 : IntKind.wrap .u32 (x.toNat : Int) = (x.toNat : Int) := zBp_ _ (by omega) (by omega)
  rw [e1, zFw_ hr (by omega)]
  unfold zGp_
  obtain ⟨bot', e2⟩ := zp_ (α := Int → Slc → Int → Int → Int → AHeap → Option ((Int) × AHeap)) (fun _ _ _ _ _ _ => none) (zdf_ k D fun (r12 : Int) (y13 : Slc) (y14 : Int) (y15 : Int) (h16 : AHeap) => zh_ bot (m + 1) (zGc_ k D j) r12 y13 y14 (IntKind.wrap .i64 (y15 + 1)) h16) hk
  rw [e2]
  have := zAC_ k D (fun (r12 : Int) (y13 : Slc) (y14 : Int) (y15 : Int) (h16 : AHeap) => zh_ bot (m + 1) (zGc_ k D j) r12 y13 y14 (IntKind.wrap .i64 (y15 + 1)) h16) bot' (⟨some ⟨b, 0, sp⟩, l.length, cap⟩ : Slc) (l.length : Int) (i : Int) h 8 0 (r ^^^ x.toNat) (by omega) (zGu_ x hr)
  refine this.trans ?_
  rw [w1 (by omega), zHh_ hx]
  exact zJD_ hk D j bot hb hs m (i + 1) _ (by omega) (zTm_ 8 (zGu_ x hr))
theorem ziE_ {k : Nat} (hk : 9 ≤ k) (D : za_) (s : ByteArray) (h : AHeap) (hs : s.size < k) (hs2 : s.size < 9223372036854775807) : zZi_ k D s h = some (((crc (bl s) : Nat) : Int), h.new (.cells (zR_ s) 5 true 0)) := by
 simp only [zZi_]
 refine jn ?_
 unfold ziq_
 have hl := zv_ s
 obtain ⟨bot', e2⟩ := zp_ (α := Int → Slc → Int → Int → AHeap → Option ((Int) × AHeap)) (fun _ _ _ _ _ => none) (zGc_ k D fun (r1 : Int) (h2 : AHeap) => some (IntKind.wrap .i64 (Go.bits .xor .u32 (IntKind.max .u32) r1), h2)) (show s.size + 1 ≤ k from hs)
 rw [e2]
 have := zJD_ (k := k) hk D (fun (r1 : Int) (h2 : AHeap) => some (IntKind.wrap .i64 (Go.bits .xor .u32 (IntKind.max .u32) r1), h2)) bot' (h := h.new (.cells (zR_ s) 5 true 0)) (b := h.next) (l := bl s) (e := 5) (rw' := true) (fz := 0) (cap := s.size) (sp := some 2) (by simp [zpv_]) (by omega) s.size 0 4294967295 (by omega) (by decide)
 rw [hl] at this
 refine this.trans ?_
 simp only [List.drop_zero]
 have hc := zku_ (bl s) (r := 4294967295) (by decide)
 rw [zaG_ hc]
 have hcc := zHG_ (bl s)
 show some (IntKind.wrap .i64 ((crc (bl s) : Nat) : Int), _) = _
 rw [w64 _ (by omega)]
theorem zmz_ : crc [49, 50, 51, 52, 53, 54, 55, 56, 57] = 3808858755 := by decide +kernel
theorem zVm_ {k : Nat} (hk : 20 ≤ k) (D : za_) (h : AHeap) : ∃ h', zre_ k D h = some (true, h') ∧ zb_ h h' := by
 simp only [zre_]
 refine ⟨h.new (.cells (zR_ (⟨#[49, 50, 51, 52, 53, 54, 55, 56, 57]⟩ : ByteArray)) 5 true 0), bnd (ziE_ (by omega) D _ h (by show 9 < k; omega) (by decide)) ?_, zb_.new _ _⟩
 have : bl (⟨#[49, 50, 51, 52, 53, 54, 55, 56, 57]⟩ : ByteArray) = [49, 50, 51, 52, 53, 54, 55, 56, 57] := rfl
 simp only [this, zmz_]
 rfl
end Gz
namespace Gz
open Go Gx
def fixL (n : Nat) : Nat → List UInt8
 | 0 => []
 | k + 1 => UInt8.ofNat (n / 256 ^ k) :: fixL n k
theorem zwi_ (n : Nat) : ∀ k, (fixL n k).length = k
 | 0 => rfl
 | k + 1 => by simp [fixL, zwi_ n k]
theorem zoy_ (n : Nat) : ∀ (k i : Nat), i < k → (fixL n k)[i]? = some (UInt8.ofNat (n / 256 ^ (k - 1 - i)))
 | 0, i, h => by omega
 | k + 1, 0, _ => by simp [fixL]
 | k + 1, i + 1, h => by
  simp only [fixL, List.getElem?_cons_succ]
  rw [zoy_ n k i (by omega)]
  congr 4; omega
def numL (a : Nat) : List UInt8 → Nat
 | [] => a
 | c :: l => numL (a * 256 + c.toNat) l
theorem toNat_ofNat (n : Nat) : (UInt8.ofNat n).toNat = n % 256 := by simp
theorem zQC_ (n : Nat) : UInt8.ofNat (n % 256) = UInt8.ofNat n := by
 apply UInt8.toNat_inj.1
 rw [toNat_ofNat, toNat_ofNat]; omega
end Gz
namespace Gz
open Go Gx Go.Proofs
theorem zM_ {h : AHeap} {b o : Nat} {sp : Option Nat} {c : List Value} {e : TypeId} {r : Bool} {fz : Nat} {k : IntKind} {x : Int} (hb : h.get b = some (.cells c e r fz)) (hc : c[o]? = some (.int k x)) : ldI k ⟨b, o, sp⟩ h = some x := by
 simp [ldI, AHeap.rd1, hb, hc, decI]
theorem zpd_ {h : AHeap} {b o : Nat} {sp : Option Nat} {c : List Value} {e : TypeId} {r : Bool} {fz : Nat} {x : ByteArray} (hb : h.get b = some (.cells c e r fz)) (hc : c[o]? = some (.string x)) : ldS ⟨b, o, sp⟩ h = some x := by
 simp [ldS, AHeap.rd1, hb, hc, decS]
theorem zwk_ {h : AHeap} {b n : Nat} {sp : Option Nat} {c : List Value} {e : TypeId} {r : Bool} {fz : Nat} (hb : h.get b = some (.cells c e r fz)) (hc : c.length = n) : ldA n ⟨b, 0, sp⟩ h = some c := by
 subst hc; exact zxf_ hb
theorem wu8 (m : Nat) : IntKind.wrap .u8 (m : Int) = ((m % 256 : Nat) : Int) := by rw [Go.IntKind.wrap_u8]; omega
theorem zxH_ (r : Nat) : Int.tdiv (r : Int) 256 = ((r / 256 : Nat) : Int) := rfl
def fixP (n k i : Nat) : List UInt8 := (List.range k).map fun j => if k ≤ j + i then UInt8.ofNat (n / 256 ^ (k - 1 - j)) else 0
theorem zIg_ (n k i : Nat) : (fixP n k i).length = k := by simp [fixP]
theorem zyv_ (n k : Nat) : fixP n k 0 = List.replicate k 0 := by
 apply List.ext_getElem?
 intro j
 simp only [fixP, List.getElem?_map, List.getElem?_replicate]
 by_cases hj : j < k
 ·simp [hj]; omega
 ·simp [hj]
theorem zkE_ (n k : Nat) : fixP n k k = fixL n k := by
 apply List.ext_getElem?
 intro j
 by_cases hj : j < k
 ·rw [zoy_ n k j hj]; simp [fixP, hj]
 ·rw [List.getElem?_eq_none (by rw [zIg_]; omega), List.getElem?_eq_none (by rw [zwi_]; omega)]
theorem zOE_ {n k i : Nat} (hi : i < k) : (fixP n k i).set (k - 1 - i) (UInt8.ofNat (n / 256 ^ i)) = fixP n k (i + 1) := by
 apply List.ext_getElem?
 intro j
 by_cases hj : j < k
 ·rw [List.getElem?_set]
  by_cases he : k - 1 - i = j
  ·rw [if_pos he, if_pos (by rw [zIg_]; omega)]
   have : i = k - 1 - j := by omega
   subst this
   simp [fixP, hj]
   omega
  ·rw [if_neg he]
   simp only [fixP, List.getElem?_map, List.getElem?_range hj, Option.map_some, Option.some.injEq]
   by_cases h1 : k ≤ j + i
   ·rw [if_pos h1, if_pos (by omega)]
   ·rw [if_neg h1, if_neg (by omega)]
 ·rw [List.getElem?_eq_none (by rw [List.length_set, zIg_]; omega), List.getElem?_eq_none (by rw [zIg_]; omega)]
abbrev rfT := Int → Slc → Int → AHeap → Option ((ByteArray × Int) × AHeap)
theorem zLu_ (K : Nat) (D : za_) (j) (bot : rfT) {n k : Nat} (hn : n < 9223372036854775808) (hk : k ≤ 8) {b cap : Nat} {sp : Option Nat} {e : TypeId} : ∀ (m i : Nat) (h : AHeap), i + m = k → h.get b = some (.cells ((fixP n k i).map encB) e true 0) →
  zh_ bot (m + 1) (zCc_ K D j) ((n / 256 ^ i : Nat) : Int) (⟨some ⟨b, 0, sp⟩, k, cap⟩ : Slc) ((k : Int) - 1 - (i : Int)) h = j (⟨some ⟨b, 0, sp⟩, k, cap⟩ : Slc) (h.set b (.cells ((fixL n k).map encB) e true 0))
 | 0, i, h, hi, hb => by
  obtain rfl : i = k := by omega
  rw [zkE_] at hb
  rw [ze_]; simp only [zCc_]
  refine ifn (by simp <;> omega) ?_
  rw [zPg_ hb]
 | m + 1, i, h, hi, hb => by
  rw [ze_]; simp only [zCc_]
  refine ifp (by simp; omega) ?_
  have e2 : ((k : Int) - 1 - (i : Int)) = ((k - 1 - i : Nat) : Int) := by omega
  rw [e2]
  refine bnd (zki_ (by omega)) ?_
  rw [wu8]
  refine bnd (zvA_ hb (by rw [zIg_]; omega) (Nat.mod_lt _ (by decide))) ?_
  have hle : n / 256 ^ i ≤ n := Nat.div_le_self _ _
  have hle2 : n / 256 ^ i / 256 ≤ n / 256 ^ i := Nat.div_le_self _ _
  rw [zxH_, w64 ((n / 256 ^ i / 256 : Nat) : Int) (by omega), w64 (((k - 1 - i : Nat) : Int) - 1) (by omega), zQC_, zOE_ (by omega)]
  have e3 : n / 256 ^ i / 256 = n / 256 ^ (i + 1) := by rw [Nat.div_div_eq_div_mul, Nat.pow_succ]
  have e4 : (((k - 1 - i : Nat) : Int) - 1) = (k : Int) - 1 - ((i + 1 : Nat) : Int) := by omega
  rw [e3, e4]
  refine (zLu_ K D j bot hn hk (e := e) m (i + 1) (h.set b (.cells ((fixP n k (i + 1)).map encB) e true 0)) (by omega) (by simp)).trans ?_
  rw [zjh_]
theorem zED_ {kf : Nat} (hkf : 9 ≤ kf) (D : za_) (n k : Nat) (h : AHeap) (hk1 : 1 ≤ k) (hk7 : k ≤ 7) (hn : n < 9223372036854775808) (hlt : n < 256 ^ k) :
  ∃ h', zhe_ kf D (n : Int) (k : Int) h = some ((⟨⟨fixL n k⟩⟩ : ByteArray), h') ∧ zb_ h h' := by
 simp only [zhe_]
 let H := (h.new (.cells ((List.replicate k (0 : UInt8)).map encB) 5 true 0)).set h.next (.cells ((fixL n k).map encB) 5 true 0)
 refine ⟨H, bnd (v := (((⟨⟨fixL n k⟩⟩ : ByteArray), 0), H)) ?_ rfl, Chg.beh (zb_.new h _) (Chg.set (S := fun x => x = h.next) (.inr rfl)) (fun x hx e => by have : x = h.next := e; omega)⟩
 simp only [zBg_]
 refine jn ?_
 refine ifn (by simp <;> omega) ?_
 refine ifn (by simp <;> omega) ?_
 refine ifn (by simp <;> omega) ?_
 refine ifp (by simp; omega) ?_
 have e1 : IntKind.wrap .i64 (8 * (k : Int)) = ((8 * k : Nat) : Int) := by rw [w64 _ (by omega)]; omega
 rw [e1]
 refine ifp (by omega) ?_
 rw [zmF_ n (8 * k) (by omega), Nat.pow_mul, show (2 : Nat) ^ 8 = 256 from rfl]
 refine ifn (by simp [Nat.div_eq_of_lt hlt]) ?_
 refine ifp (by omega) ?_
 refine jn ?_
 rw [Int.toNat_natCast, zyl_]
 unfold zri_
 have hb : (h.new (.cells ((List.replicate k (0 : UInt8)).map encB) 5 true 0)).get h.next = some (.cells ((fixP n k 0).map encB) 5 true 0) := by rw [zyv_]; simp
 generalize hj : (fun (b7 : Slc) (h8 : AHeap) => (zXb_ h8 b7).bind _) = j
 obtain ⟨bot', e2⟩ := zp_ (α := rfT) (fun _ _ _ _ => none) (zCc_ kf D j) (show k + 1 ≤ kf by omega)
 rw [e2, w64 ((k : Int) - 1) (by omega)]
 have := zLu_ kf D j bot' (n := n) (k := k) hn (by omega) (b := h.next) (cap := k) (sp := some 0) (e := 5) k 0 _ (by omega) hb
 simp only [Nat.pow_zero, Nat.div_one, Int.natCast_zero, Int.sub_zero] at this
 refine this.trans ?_
 subst hj
 have hg : H.get h.next = some (.cells ((fixL n k).map encB) 5 true 0) := by simp [H]
 have := zcd_ (cap := k) (sp := some 0) hg
 rw [zwi_] at this
 exact bnd this rfl
end Gz
namespace Gz
open Go Gx Go.Proofs
theorem znE_ {a i n : Nat} (h : a < 256 ^ i) (hi : i < n) (hn : n ≤ 7) : a * 256 + 256 ≤ 72057594037927936 := by
 have h1 : 256 ^ i ≤ 256 ^ 6 := Nat.pow_le_pow_right (by decide) (by omega)
 have : (256 : Nat) ^ 6 = 281474976710656 := by decide
 omega
theorem zDD_ {a i : Nat} {c : UInt8} (h : a < 256 ^ i) : a * 256 + c.toNat < 256 ^ (i + 1) := by
 have hc : c.toNat < 256 := UInt8.toNat_lt c
 rw [Nat.pow_succ]; omega
abbrev nuT := ByteArray → Int → Int → AHeap → Option ((Int) × AHeap)
theorem zXD_ (K : Nat) (D : za_) (j) (bot : nuT) (s : ByteArray) (h : AHeap) (hs : s.size ≤ 7) : ∀ (m i a : Nat), i + m = s.size → a < 256 ^ i →
  zh_ bot (m + 1) (zpf_ K D j) s (a : Int) (i : Int) h = j ((numL a ((bl s).drop i) : Nat) : Int) h
 | 0, i, a, hi, ha => by
  obtain rfl : i = s.size := by omega
  rw [ze_]; simp only [zpf_]
  refine ifn (by simp) ?_
  rw [List.drop_eq_nil_of_le (by rw [zv_]; omega)]; rfl
 | m + 1, i, a, hi, ha => by
  rw [ze_]; simp only [zpf_]
  refine ifp (by simp; omega) ?_
  obtain ⟨x, hx⟩ := zy_ (l := bl s) (i := i) (by rw [zv_]; omega)
  refine bnd (zcm_ hx) ?_
  have hx' : x.toNat < 256 := UInt8.toNat_lt x
  have hb := znE_ ha (show i < s.size by omega) hs
  have e1 : IntKind.wrap .i64 (IntKind.wrap .i64 ((a : Int) * 256) + IntKind.wrap .i64 (x.toNat : Int)) = ((a * 256 + x.toNat : Nat) : Int) := by
   rw [w64 ((a : Int) * 256) (by omega), w64 (x.toNat : Int) (by omega), w64 _ (by omega)]; omega
  rw [e1, w1 (by omega), zHh_ hx]
  exact zXD_ K D j bot s h hs m (i + 1) _ (by omega) (zDD_ ha)
theorem zOD_ {kf : Nat} (hkf : 9 ≤ kf) (D : za_) (s : ByteArray) (h : AHeap) (hs : s.size ≤ 7) : zej_ kf D s h = some (((numL 0 (bl s) : Nat) : Int), h) := by
 simp only [zej_]
 refine jn ?_
 unfold zZo_
 obtain ⟨bot', e2⟩ := zp_ (α := nuT) (fun _ _ _ _ => none) (zpf_ kf D fun (n1 : Int) (h2 : AHeap) => some (n1, h2)) (show s.size + 1 ≤ kf by omega)
 rw [e2]
 have := zXD_ kf D (fun (n1 : Int) (h2 : AHeap) => some (n1, h2)) bot' s h hs s.size 0 0 (by omega) (by decide)
 refine this.trans ?_
 rw [List.drop_zero]
def Rdr (h : AHeap) (b : Nat) (s : ByteArray) (e : Int) : Prop := h.get b = some (.cells [.string s, .int .i64 e] 115 true 0)
theorem Rdr.chg {S : Nat → Prop} {h h' : AHeap} {b : Nat} {s : ByteArray} {e : Int} (R : Rdr h b s e) (c : Chg S h h') (hb : ¬ S b) (hl : b < h.next) : Rdr h' b s e := (c.oth b hl hb).trans R
def zIH_ (b : Nat) : Nat → Prop := fun x => x = b
end Gz
namespace Gz
open Go Gx Go.Proofs
abbrev Sh := Int × Int × Int × Int × ByteArray × ByteArray
def shC (x : Sh) : List Value := [.int .i64 x.1, .int .i64 x.2.1, .int .i64 x.2.2.1, .int .i64 x.2.2.2.1, .string x.2.2.2.2.1, .string x.2.2.2.2.2]
def chkA (x : Sh) : Int :=
 if x.1 < 1 then 60 else if x.2.1 < 0 then 60 else if x.1 > 255 then 60 else if x.2.1 > 255 - x.1 then 60 else if x.2.2.1 < 0 then 60 else if x.2.2.1 ≥ x.1 + x.2.1 then 60 else
 if x.2.2.2.1 < 0 then 60 else if x.2.2.2.1 > 65536 then 60 else if (x.2.2.2.2.1.size : Int) ≠ 32 then 60 else if (x.2.2.2.2.2.size : Int) ≠ Int.tdiv (x.2.2.2.1 + x.1 - 1) x.1 then 60 else 0
theorem zmy_ (x : Sh) (h : AHeap) (t : TypeId) : (h.new (.cells (shC x) t true 0)).get h.next = some (.cells (shC x) t true 0) := by simp
theorem zRc_ (x : Sh) : decC [.i .i64, .i .i64, .i .i64, .i .i64, .s, .s] (shC x) = some x := rfl
theorem zGG_ {x : Sh} {h : AHeap} {b : Nat} {sp : Option Nat} {t : TypeId} (hb : h.get b = some (.cells (shC x) t true 0)) : ldA 6 ⟨b, 0, sp⟩ h = some (shC x) := zwk_ hb rfl
theorem zqC_ (k : Nat) (D : za_) (x : Sh) (h : AHeap) : zEg_ k D x h = some (chkA x, h.new (.cells (shC x) 33 true 0)) := by
 have hb := zmy_ x h 33
 generalize hh : h.new (.cells (shC x) 33 true 0) = h1 at hb
 have l0 : ldI .i64 ⟨h.next, 0, none⟩ h1 = some x.1 := zM_ hb rfl
 have l1 : ldI .i64 ⟨h.next, 1, none⟩ h1 = some x.2.1 := zM_ hb rfl
 have l2 : ldI .i64 ⟨h.next, 2, none⟩ h1 = some x.2.2.1 := zM_ hb rfl
 have l3 : ldI .i64 ⟨h.next, 3, none⟩ h1 = some x.2.2.2.1 := zM_ hb rfl
 have l4 : ldS ⟨h.next, 4, none⟩ h1 = some x.2.2.2.2.1 := zpd_ hb rfl
 have l5 : ldS ⟨h.next, 5, none⟩ h1 = some x.2.2.2.2.2 := zpd_ hb rfl
 have hh' : h.new (.cells [.int .i64 x.1, .int .i64 x.2.1, .int .i64 x.2.2.1, .int .i64 x.2.2.2.1, .string x.2.2.2.2.1, .string x.2.2.2.2.2] 33 true 0) = h1 := hh
 simp only [zEg_, zn_, hh', Option.bind_some, l0, l1, l2, l3, l4, l5, Nat.zero_add, ztn_]
 unfold chkA
 by_cases c1 : x.1 < 1
 ·simp [c1]
 by_cases c2 : x.2.1 < 0
 ·simp [c1, c2]
 by_cases c3 : x.1 > 255
 ·simp [c1, c2, c3]
 rw [w64 (255 - x.1) (by omega)]
 by_cases c4 : x.2.1 > 255 - x.1
 ·simp [c1, c2, c3, c4]
 by_cases c5 : x.2.2.1 < 0
 ·simp [c1, c2, c3, c4, c5]
 rw [w64 (x.1 + x.2.1) (by omega)]
 by_cases c6 : x.2.2.1 ≥ x.1 + x.2.1
 ·simp [c1, c2, c3, c4, c5, c6]
 by_cases c7 : x.2.2.2.1 < 0
 ·simp [c1, c2, c3, c4, c5, c6, c7]
 by_cases c8 : x.2.2.2.1 > 65536
 ·simp [c1, c2, c3, c4, c5, c6, c7, c8]
 by_cases c9 : (x.2.2.2.2.1.size : Int) = 32
 ·have q1 : 0 ≤ Int.tdiv (x.2.2.2.1 + x.1 - 1) x.1 := Int.tdiv_nonneg (by omega) (by omega)
  have q2 : Int.tdiv (x.2.2.2.1 + x.1 - 1) x.1 ≤ x.2.2.2.1 + x.1 - 1 := by
   rw [Int.tdiv_eq_ediv_of_nonneg (by omega)]; exact Int.ediv_le_self _ (by omega)
  rw [w64 (x.2.2.2.1 + x.1) (by omega), w64 (x.2.2.2.1 + x.1 - 1) (by omega), w64 _ (by omega)]
  have c0 : x.1 ≠ 0 := by omega
  by_cases c10 : (x.2.2.2.2.2.size : Int) = Int.tdiv (x.2.2.2.1 + x.1 - 1) x.1
  ·simp [c1, c2, c3, c4, c5, c6, c7, c8, c9, c10, c0]
  ·simp [c1, c2, c3, c4, c5, c6, c7, c8, c9, c10, c0]
 ·simp [c1, c2, c3, c4, c5, c6, c7, c8, c9]
theorem zsz_ (k : Nat) (D : za_) (x : Sh) (h : AHeap) : zHg_ k D x h = some (chkA x, h.new (.cells (shC x) 34 true 0)) := by
 have hb := zmy_ x h 34
 generalize hh : h.new (.cells (shC x) 34 true 0) = h1 at hb
 have l0 : ldI .i64 ⟨h.next, 0, none⟩ h1 = some x.1 := zM_ hb rfl
 have l1 : ldI .i64 ⟨h.next, 1, none⟩ h1 = some x.2.1 := zM_ hb rfl
 have l2 : ldI .i64 ⟨h.next, 2, none⟩ h1 = some x.2.2.1 := zM_ hb rfl
 have l3 : ldI .i64 ⟨h.next, 3, none⟩ h1 = some x.2.2.2.1 := zM_ hb rfl
 have l4 : ldS ⟨h.next, 4, none⟩ h1 = some x.2.2.2.2.1 := zpd_ hb rfl
 have l5 : ldS ⟨h.next, 5, none⟩ h1 = some x.2.2.2.2.2 := zpd_ hb rfl
 have hh' : h.new (.cells [.int .i64 x.1, .int .i64 x.2.1, .int .i64 x.2.2.1, .int .i64 x.2.2.2.1, .string x.2.2.2.2.1, .string x.2.2.2.2.2] 34 true 0) = h1 := hh
 simp only [zHg_, zn_, hh', Option.bind_some, l0, l1, l2, l3, l4, Nat.zero_add, zVe_]
 unfold chkA
 by_cases c1 : x.1 < 1
 ·simp [c1]
 by_cases c2 : x.2.1 < 0
 ·simp [c1, c2]
 by_cases c3 : x.1 > 255
 ·simp [c1, c2, c3]
 rw [w64 (255 - x.1) (by omega)]
 by_cases c4 : x.2.1 > 255 - x.1
 ·simp [c1, c2, c3, c4]
 by_cases c5 : x.2.2.1 < 0
 ·simp [c1, c2, c3, c4, c5]
 rw [w64 (x.1 + x.2.1) (by omega)]
 by_cases c6 : x.2.2.1 ≥ x.1 + x.2.1
 ·simp [c1, c2, c3, c4, c5, c6]
 by_cases c7 : x.2.2.2.1 < 0
 ·simp [c1, c2, c3, c4, c5, c6, c7]
 by_cases c8 : x.2.2.2.1 > 65536
 ·simp [c1, c2, c3, c4, c5, c6, c7, c8]
 by_cases c9 : (x.2.2.2.2.1.size : Int) = 32
 ·have q1 : 0 ≤ Int.tdiv (x.2.2.2.1 + x.1 - 1) x.1 := Int.tdiv_nonneg (by omega) (by omega)
  have q2 : Int.tdiv (x.2.2.2.1 + x.1 - 1) x.1 ≤ x.2.2.2.1 + x.1 - 1 := by
   rw [Int.tdiv_eq_ediv_of_nonneg (by omega)]; exact Int.ediv_le_self _ (by omega)
  rw [w64 (x.2.2.2.1 + x.1) (by omega), w64 (x.2.2.2.1 + x.1 - 1) (by omega), w64 _ (by omega)]
  have c0 : x.1 ≠ 0 := by omega
  have hg : zC_ [h1] (fun H18 => (ldS ⟨h.next, 5, none⟩ H18).bind fun y17 => some (.string y17)) (.string x.2.2.2.2.2) := by
   intro H hH; simp only [List.mem_singleton] at hH; subst hH; simp only [l5, Option.bind_some]
  by_cases c10 : (x.2.2.2.2.2.size : Int) = Int.tdiv (x.2.2.2.1 + x.1 - 1) x.1
  ·simp [c1, c2, c3, c4, c5, c6, c7, c8, c9, c10, c0, l5, zAg_ hg]
  ·simp [c1, c2, c3, c4, c5, c6, c7, c8, c9, c10, c0, l5, zAg_ hg]
 ·simp [c1, c2, c3, c4, c5, c6, c7, c8, c9]
theorem zdv_ {x : Sh} (h : chkA x = 0) : (1 ≤ x.1 ∧ x.1 ≤ 255) ∧ (0 ≤ x.2.1 ∧ x.2.1 ≤ 255 - x.1) ∧ (0 ≤ x.2.2.1 ∧ x.2.2.1 < x.1 + x.2.1) ∧ (0 ≤ x.2.2.2.1 ∧ x.2.2.2.1 ≤ 65536) ∧ x.2.2.2.2.1.size = 32 ∧ (x.2.2.2.2.2.size : Int) = Int.tdiv (x.2.2.2.1 + x.1 - 1) x.1 := by
 unfold chkA at h
 by_cases c1 : x.1 < 1
 ·simp [c1] at h
 by_cases c2 : x.2.1 < 0
 ·simp [c1, c2] at h
 by_cases c3 : x.1 > 255
 ·simp [c1, c2, c3] at h
 by_cases c4 : x.2.1 > 255 - x.1
 ·simp [c1, c2, c3, c4] at h
 by_cases c5 : x.2.2.1 < 0
 ·simp [c1, c2, c3, c4, c5] at h
 by_cases c6 : x.2.2.1 ≥ x.1 + x.2.1
 ·simp [c1, c2, c3, c4, c5, c6] at h
 by_cases c7 : x.2.2.2.1 < 0
 ·simp [c1, c2, c3, c4, c5, c6, c7] at h
 by_cases c8 : x.2.2.2.1 > 65536
 ·simp [c1, c2, c3, c4, c5, c6, c7, c8] at h
 by_cases c9 : (x.2.2.2.2.1.size : Int) = 32
 ·by_cases c10 : (x.2.2.2.2.2.size : Int) = Int.tdiv (x.2.2.2.1 + x.1 - 1) x.1
  ·refine ⟨by omega, by omega, by omega, by omega, by omega, c10⟩
  ·simp [c1, c2, c3, c4, c5, c6, c7, c8, c9, c10] at h
 ·simp [c1, c2, c3, c4, c5, c6, c7, c8, c9] at h
def zcF_ (x : Sh) : List UInt8 := [71, 82, 84, 1] ++ [UInt8.ofNat x.1.toNat, UInt8.ofNat x.2.1.toNat, UInt8.ofNat x.2.2.1.toNat] ++ fixL x.2.2.2.1.toNat 4 ++ bl x.2.2.2.2.1 ++ bl x.2.2.2.2.2
def sumL (n : Nat) : List UInt8 := [UInt8.ofNat n, UInt8.ofNat (n / 256), UInt8.ofNat (n / 65536), UInt8.ofNat (n / 16777216)]
def zhF_ (x : Sh) : List UInt8 := zcF_ x ++ sumL (crc (zcF_ x))
theorem zht_ (a b : List UInt8) : (⟨⟨a⟩⟩ : ByteArray) ++ (⟨⟨b⟩⟩ : ByteArray) = ⟨⟨a ++ b⟩⟩ := by
 apply zly_
 simp [bl]
end Gz
namespace Gz
open Go Gx Go.Proofs
theorem sw1 {H1 : AHeap} {F : AHeap → Option Value} {v : Value} (h : F H1 = some v) : zC_ [H1] F v := by
 intro H hH; simp only [List.mem_singleton] at hH; subst hH; exact h
theorem sw2 {H1 H2 : AHeap} {F : AHeap → Option Value} {v : Value} (h : F H1 = some v) (h' : F H2 = some v) : zC_ [H1, H2] F v := by
 intro H hH
 simp only [List.mem_cons, List.not_mem_nil, or_false] at hH
 rcases hH with rfl | rfl
 ·exact h
 ·exact h'
theorem zPs_ {h : AHeap} {b n : Nat} {sp : Option Nat} {c cs : List Value} {e : TypeId} (hb : h.get b = some (.cells c e true 0)) (hc : c.length = n) (hl : cs.length = n) (ho : zAc_ cs = true) (hn : n ≠ 0) :
  stL n ⟨b, 0, sp⟩ cs h = some (h.set b (.cells cs e true 0)) := by
 unfold stL
 rw [hl, Nat.beq_refl, cond_true]
 cases cs with
 | nil => simp at hl; omega
 | cons v t =>
  simp only [AHeap.wrL, hb]
  rw [if_pos ⟨by omega, by omega, ho⟩]
  simp only [zlb_, List.take_zero, List.nil_append, Nat.zero_add]
  rw [List.drop_eq_nil_of_le (by omega), List.append_nil]
theorem zqq_ (x : Sh) : zAc_ (shC x) = true := rfl
def encA (x : Sh) : ByteArray × Int := if chkA x = 0 then (⟨⟨zhF_ x⟩⟩, 0) else (⟨#[]⟩, chkA x)
def zSh : Sh := (0, 0, 0, 0, ⟨#[]⟩, ⟨#[]⟩)
theorem zqG_ (k : Nat) (D : za_) (x : Sh) (h : AHeap) : ∃ h', zek_ k D x h = some (x, h') ∧ zb_ h h' := by
 simp only [zek_]
 let h1 := h.new (.cells (shC x) 33 true 0)
 let h2 := h1.new (.cells (shC zSh) 34 true 0)
 have hb : h1.get h.next = some (.cells (shC x) 33 true 0) := zmy_ x h 33
 have hb2 : h2.get h.next = some (.cells (shC x) 33 true 0) := ((zb_.new h1 _).oth h.next (by simp [h1]) (fun f => f)).trans hb
 have hz : h2.get h1.next = some (.cells (shC zSh) 34 true 0) := by simp [h2]
 let h9 := h2.set h1.next (.cells (shC x) 34 true 0)
 have h9g : h9.get h1.next = some (.cells (shC x) 34 true 0) := by simp [h9]
 refine ⟨h9, ?_, Chg.beh ((zb_.new h _).trans (zb_.new h1 _)) (Chg.set (S := zIH_ h1.next) (.inr rfl)) (fun y hy e => by have : y = h.next + 1 := e; omega)⟩
 refine bnd (zM_ hb2 rfl) ?_
 refine bnd (zM_ hb2 rfl) ?_
 refine bnd (zM_ hb2 rfl) ?_
 refine bnd (zM_ hb2 rfl) ?_
 refine bnd (zpd_ hb2 rfl) ?_
 refine bnd (zpd_ hb2 rfl) ?_
 refine bnd (zPs_ hz rfl rfl (zqq_ x) (by decide)) ?_
 exact bnd (zGG_ h9g) (bnd (zRc_ x) rfl)
theorem eqSh (x : Sh) : ((x.1 == x.1) && ((x.2.1 == x.2.1) && ((x.2.2.1 == x.2.2.1) && ((x.2.2.2.1 == x.2.2.2.1) && ((x.2.2.2.2.1 == x.2.2.2.2.1) && (x.2.2.2.2.2 == x.2.2.2.2.2)))))) = true := by simp [zHi_]
end Gz
namespace Gz
open Go Gx Go.Proofs
theorem zei_ (h : AHeap) (b : Nat) (B : ABlk) : (h.set b B).get b = some B := by simp
structure PL (h : AHeap) (pb f2 B sb fb k m : Nat) : Prop where
 blk : h.get pb = some (.cells [.int .i64 (k : Int), .int .i64 (m : Int), .pointer (some ⟨f2, 0, none⟩), .pointer (some ⟨sb, 0, none⟩), .int .i64 ((k + m : Nat) : Int), .int .i64 (k : Int), .slice (some ⟨B, 0, some 0⟩) ((k + m) * k) ((k + m) * k)] 90 true 0)
 fld : Fld h f2
 mat : h.get B = some (outB encI 3 (mat ((k + m) * k) (cau k)))
 spc : Spc h sb fb
 lp : pb < h.next
 lf : f2 < h.next
 lb : B < h.next
 n1 : B ≠ f2
 n2 : pb ≠ f2
 n3 : sb ≠ f2
 n4 : fb ≠ f2
 n5 : B ≠ fb
 n6 : pb ≠ fb
 n7 : B ≠ sb
 n8 : pb ≠ sb
theorem PL.chg {S : Nat → Prop} {h h' : AHeap} {pb f2 B sb fb k m : Nat} (p : PL h pb f2 B sb fb k m) (c : Chg S h h') (a1 : ¬ S pb) (a2 : ¬ S f2) (a3 : ¬ S B) (a4 : ¬ S sb) (a5 : ¬ S fb) : PL h' pb f2 B sb fb k m :=
 ⟨(c.oth _ p.lp a1).trans p.blk, zQp_ p.fld p.lf c a2, (c.oth _ p.lb a3).trans p.mat, p.spc.chg c a4 a5, Nat.lt_of_lt_of_le p.lp c.nx, Nat.lt_of_lt_of_le p.lf c.nx, Nat.lt_of_lt_of_le p.lb c.nx, p.n1, p.n2, p.n3, p.n4, p.n5, p.n6, p.n7, p.n8⟩
theorem PL.keeps {h h' : AHeap} {pb f2 B sb fb k m : Nat} (p : PL h pb f2 B sb fb k m) (c : zb_ h h') : PL h' pb f2 B sb fb k m :=
 p.chg c (fun f => f) (fun f => f) (fun f => f) (fun f => f) (fun f => f)
theorem PL.fs2 {h h' : AHeap} {pb f2 B sb fb k m : Nat} (p : PL h pb f2 B sb fb k m) (s : FS f2 h h') : PL h' pb f2 B sb fb k m :=
 ⟨(s.oth _ p.lp p.n2).trans p.blk, s.fld, (s.oth _ p.lb p.n1).trans p.mat, p.spc.chg s.chg p.n3 p.n4, Nat.lt_of_lt_of_le p.lp s.nx, Nat.lt_of_lt_of_le p.lf s.nx, Nat.lt_of_lt_of_le p.lb s.nx, p.n1, p.n2, p.n3, p.n4, p.n5, p.n6, p.n7, p.n8⟩
theorem zGC_ {k0 : Nat} (hk : 1000 ≤ k0) (h : AHeap) {k m : Nat} (hk1 : 0 < k) (hR : k + m ≤ 255) :
  ∃ h' pb f2 B sb fb, zKh_ k0 (DD k0) (k : Int) (m : Int) h = some ((some ⟨pb, 0, none⟩, 0), h') ∧ PL h' pb f2 B sb fb k m ∧ zb_ h h' ∧ h.next ≤ pb ∧ h.next ≤ f2 ∧ h.next ≤ B ∧ h.next ≤ sb ∧ h.next ≤ fb := by
 simp only [zKh_]
 obtain ⟨h1, r1, k1, S1, n1⟩ := zHD_ k0 (DD k0) h
 obtain ⟨h2, B, r2, S2, M⟩ := zCz_ hk (k := k) (m := m) S1 hk1 hR
 obtain ⟨h4, r4, k4, n4, b4⟩ := mvar (h := h2) (e := 84) (r := ((k + m : Nat) : Int)) (c := (k : Int)) (s := zk_ B ((k + m) * k))
 have hs := S2.ls
 have hf := S2.lf
 have hB := M.lb
 have hnb := M.nb
 let h5 := h4.new (.cells fresh 143 true 0)
 have k5 : zb_ h4 h5 := zb_.new _ _
 have b5 : h5.get h2.next = some (.cells (zg_ ((k + m : Nat) : Int) (k : Int) (zk_ B ((k + m) * k))) 84 true 0) := (k5.oth _ (by omega) (fun f => f)).trans b4
 have q4 := zwk_ (sp := none) b4 (show (zg_ ((k + m : Nat) : Int) (k : Int) (zk_ B ((k + m) * k))).length = 3 from rfl)
 have q5 := zwk_ (sp := none) b5 (show (zg_ ((k + m : Nat) : Int) (k : Int) (zk_ B ((k + m) * k))).length = 3 from rfl)
 let h6 := h5.new (.cells [.int .i64 (k : Int), .int .i64 (m : Int), .pointer (some ⟨h4.next, 0, none⟩), .pointer (some ⟨h.next + 1, 0, none⟩), .int .i64 ((k + m : Nat) : Int), .int .i64 (k : Int), .slice (some ⟨B, 0, some 0⟩) ((k + m) * k) ((k + m) * k)] 90 true 0)
 have k6 : zb_ h5 h6 := zb_.new _ _
 have K26 : zb_ h2 h6 := k4.trans (k5.trans k6)
 have n5 : h5.next = h4.next + 1 := rfl
 refine ⟨h6, h5.next, h4.next, B, h.next + 1, h.next, ?_, ⟨?_, ?_, ?_, S2.keeps K26, ?_, ?_, ?_, ?_, ?_, ?_, ?_, ?_, ?_, ?_, ?_⟩, ?_, ?_, ?_, ?_, ?_, ?_⟩
 ·refine bnd r1 (bnd r2 (bnd r4 ?_))
  refine ifn (by simp) ?_
  refine bnd (zgy_ k0 (DD k0) h4) ?_
  refine bnd q5 (gp (sw1 (bnd q4 rfl)) ?_)
  exact bnd rfl rfl
 ·show h6.get h5.next = _; simp [h6]
 ·exact zQp_ (zoG_ h4) (by show h4.next < h4.next + 1; omega) k6 (fun f => f)
 ·exact (K26.oth _ hB (fun f => f)).trans M.blk
 ·show h5.next < h5.next + 1; omega
 ·show h4.next < h4.next + 1 + 1; omega
 ·have := K26.nx; omega
 ·omega
 ·omega
 ·omega
 ·omega
 ·omega
 ·omega
 ·omega
 ·omega
 ·exact Chg.beh (k1.trans (Chg.refl _ _)) (M.ch.trans (Chg.keeps K26)) (fun x hx e => by have : x = h.next := e; omega)
 ·omega
 ·omega
 ·omega
 ·omega
 ·omega
structure PR (h : AHeap) (pb B k m : Nat) : Prop where
 blk : h.get pb = some (.cells [.int .i64 (k : Int), .int .i64 (m : Int), .int .i64 ((k + m : Nat) : Int), .int .i64 (k : Int), .slice (some ⟨B, 0, some 0⟩) ((k + m) * k) ((k + m) * k)] 101 true 0)
 mat : h.get B = some (outB encI 3 (mat ((k + m) * k) (cau k)))
 lp : pb < h.next
 lb : B < h.next
theorem PR.chg {S : Nat → Prop} {h h' : AHeap} {pb B k m : Nat} (p : PR h pb B k m) (c : Chg S h h') (a1 : ¬ S pb) (a3 : ¬ S B) : PR h' pb B k m :=
 ⟨(c.oth _ p.lp a1).trans p.blk, (c.oth _ p.lb a3).trans p.mat, Nat.lt_of_lt_of_le p.lp c.nx, Nat.lt_of_lt_of_le p.lb c.nx⟩
theorem PR.keeps {h h' : AHeap} {pb B k m : Nat} (p : PR h pb B k m) (c : zb_ h h') : PR h' pb B k m := p.chg c (fun f => f) (fun f => f)
theorem zcC_ {k0 : Nat} (hk : 1000 ≤ k0) (D : za_) (h : AHeap) {k m : Nat} (hk1 : 0 < k) (hR : k + m ≤ 255) :
  ∃ h' pb B, zWi_ k0 D (k : Int) (m : Int) h = some ((some ⟨pb, 0, none⟩, 0), h') ∧ PR h' pb B k m ∧ zb_ h h' ∧ h.next ≤ pb ∧ h.next ≤ B := by
 simp only [zWi_]
 obtain ⟨h2, B, r2, M⟩ := zHy_ hk D (h := h) (k := k) (m := m) hk1 hR
 obtain ⟨h4, r4, k4, n4, b4⟩ := mvar (h := h2) (e := 97) (r := ((k + m : Nat) : Int)) (c := (k : Int)) (s := zk_ B ((k + m) * k))
 have hB := M.lb
 have hnb := M.nb
 have hn2 := M.ch.nx
 have q4 := zwk_ (sp := none) b4 (show (zg_ ((k + m : Nat) : Int) (k : Int) (zk_ B ((k + m) * k))).length = 3 from rfl)
 let h6 := h4.new (.cells [.int .i64 (k : Int), .int .i64 (m : Int), .int .i64 ((k + m : Nat) : Int), .int .i64 (k : Int), .slice (some ⟨B, 0, some 0⟩) ((k + m) * k) ((k + m) * k)] 101 true 0)
 have k6 : zb_ h4 h6 := zb_.new _ _
 refine ⟨h6, h4.next, B, ?_, ⟨?_, ?_, ?_, ?_⟩, M.ch.trans (k4.trans k6), ?_, hnb⟩
 ·refine bnd r2 (bnd r4 ?_)
  refine ifn (by simp) ?_
  exact bnd q4 (bnd rfl rfl)
 ·show h6.get h4.next = _; simp [h6]
 ·exact ((k4.trans k6).oth _ hB (fun f => f)).trans M.blk
 ·show h4.next < h4.next + 1; omega
 ·have := (k4.trans k6).nx; omega
 ·omega
end Gz
namespace Gz
open Go Gx Go.Proofs
def nE (k L : Nat) : Nat := (L + k - 1) / k
def padL (k : Nat) (s : ByteArray) : List UInt8 := bl s ++ List.replicate (k * nE k s.size - s.size) 0
def zOC_ (k : Nat) (s : ByteArray) (i : Nat) : ByteArray := ⟨⟨((padL k s).take ((i + 1) * nE k s.size)).drop (i * nE k s.size)⟩⟩
def zNF_ (k : Nat) (s : ByteArray) : List ByteArray := (List.range k).map (zOC_ k s)
def rowC (k i : Nat) : List Int := (List.range k).map fun j => cau k (i * k + j)
def zfH_ (k : Nat) (s : ByteArray) (i : Nat) : ByteArray := if i < k then zOC_ k s i else (mixA (zNF_ k s) (rowC k i)).1
theorem zuB_ {k : Nat} (hk : 0 < k) (L : Nat) : L ≤ k * nE k L := by
 unfold nE
 have := Nat.div_add_mod (L + k - 1) k
 have h2 := Nat.mod_lt (L + k - 1) hk
 omega
theorem zIB_ {k : Nat} (_hk : 0 < k) (L : Nat) : k * nE k L ≤ L + k - 1 := Nat.mul_div_le _ _
def zUd_ (k : Nat) (long : Int) : Int × Int := if long < 0 ∨ long > 65536 then (0, 1) else (Int.tdiv (long + k - 1) k, 0)
theorem zkD_ {k L : Nat} (hk : 0 < k) (hL : L ≤ 65536) : zUd_ k (L : Int) = (((nE k L : Nat) : Int), 0) := by
 unfold zUd_
 rw [if_neg (by omega)]
 have : (L : Int) + k - 1 = ((L + k - 1 : Nat) : Int) := by omega
 rw [this]; rfl
theorem zID_ (k0 : Nat) (D : za_) {h : AHeap} {pb f2 B sb fb k m : Nat} (p : PL h pb f2 B sb fb k m) (hk : 0 < k) (hk2 : k ≤ 255) (long : Int) : zjd_ k0 D (some ⟨pb, 0, none⟩) long h = some (zUd_ k long, h) := by
 simp only [zjd_]
 have l0 : ldI .i64 ⟨pb, 0, none⟩ h = some (k : Int) := zM_ p.blk rfl
 unfold zUd_
 by_cases c1 : long < 0
 ·refine jn (ifp (decide_eq_true c1) (ifp rfl ?_)); rw [if_pos (.inl c1)]
 ·refine jn (ifn (by simpa using c1) ?_)
  by_cases c2 : long > 65536
  ·refine ifp (decide_eq_true c2) ?_; rw [if_pos (.inr c2)]
  ·refine ifn (by simpa using c2) ?_
   rw [if_neg (by omega)]
   refine bnd rfl (bnd l0 (bnd rfl (bnd l0 ?_)))
   refine ifn (by omega) ?_
   have q2 : Int.tdiv (long + (k : Int) - 1) (k : Int) ≤ long + k - 1 := by rw [Int.tdiv_eq_ediv_of_nonneg (by omega)]; exact Int.ediv_le_self _ (by omega)
   have q1 : 0 ≤ Int.tdiv (long + (k : Int) - 1) (k : Int) := Int.tdiv_nonneg (by omega) (by omega)
   rw [w64 (long + (k : Int)) (by omega), w64 (long + (k : Int) - 1) (by omega), w64 _ (by omega)]
theorem zGB_ (k0 : Nat) (D : za_) {h : AHeap} {pb B k m : Nat} (p : PR h pb B k m) (hk : 0 < k) (hk2 : k ≤ 255) (long : Int) : zYd_ k0 D (some ⟨pb, 0, none⟩) long h = some (zUd_ k long, h) := by
 simp only [zYd_]
 have l0 : ldI .i64 ⟨pb, 0, none⟩ h = some (k : Int) := zM_ p.blk rfl
 unfold zUd_
 by_cases c1 : long < 0
 ·refine jn (ifp (decide_eq_true c1) (ifp rfl ?_)); rw [if_pos (.inl c1)]
 ·refine jn (ifn (by simpa using c1) ?_)
  by_cases c2 : long > 65536
  ·refine ifp (decide_eq_true c2) ?_; rw [if_pos (.inr c2)]
  ·refine ifn (by simpa using c2) ?_
   rw [if_neg (by omega)]
   refine bnd rfl (bnd l0 ?_)
   have q2 : Int.tdiv (long + (k : Int) - 1) (k : Int) ≤ long + k - 1 := by rw [Int.tdiv_eq_ediv_of_nonneg (by omega)]; exact Int.ediv_le_self _ (by omega)
   have q1 : 0 ≤ Int.tdiv (long + (k : Int) - 1) (k : Int) := Int.tdiv_nonneg (by omega) (by omega)
   have e : zVe_ k0 D (k : Int) long h = some (Int.tdiv (long + (k : Int) - 1) (k : Int), h) := by
    simp only [zVe_]
    refine ifn (by omega) ?_
    rw [w64 (long + (k : Int)) (by omega), w64 (long + (k : Int) - 1) (by omega), w64 _ (by omega)]
   exact bnd e rfl
end Gz
namespace Gz
open Go Gx Go.Proofs
end Gz
namespace Gz
open Go Gx Go.Proofs
theorem zWF_ {α : Type} {enc : α → Value} {e : TypeId} {h0 h h' : AHeap} {s : Slc} {xs : List α} (k : zb_ h0 h) (A : Acc enc e h0.next h s xs) (c : Chg (ofS s) h h') : zb_ h0 h' :=
 Chg.beh k c fun x hx e => by
  obtain ⟨a, ha, rfl⟩ := e
  have := (A.lt a ha).2
  omega
theorem zRr_ : ∀ x : ByteArray, one (encS x) = true := fun _ => rfl
end Gz
namespace Gz
open Go Gx Go.Proofs
def Tru {R : Type} (x : Option (R × AHeap)) (v : R) : Prop := ∃ h', x = some (v, h')
theorem Tru.bnd {R α : Type} {v : R} {x : Option α} {a : α} {f : α → Option (R × AHeap)} (h : x = some a) (k : Tru (f a) v) : Tru (x.bind f) v := by rw [h]; exact k
theorem Tru.jn {R α : Type} {v : R} {J : α} {b : α → Option (R × AHeap)} (k : ∀ j, j = J → Tru (b j) v) : Tru (zn_ J b) v := k J rfl
theorem Tru.ifp {R : Type} {v : R} {c : Prop} [Decidable c] {a b : Option (R × AHeap)} (h : c) (k : Tru a v) : Tru (if c then a else b) v := by rw [if_pos h]; exact k
theorem Tru.ifn {R : Type} {v : R} {c : Prop} [Decidable c] {a b : Option (R × AHeap)} (h : ¬ c) (k : Tru b v) : Tru (if c then a else b) v := by rw [if_neg h]; exact k
theorem Tru.of {R : Type} {v : R} {h : AHeap} : Tru (some (v, h)) v := ⟨h, rfl⟩
end Gz
namespace Gz
open Go Gx Go.Proofs
abbrev Prt := Int × ByteArray
def enc2 (x : Prt) : List Value := [.int .i64 x.1, .string x.2]
structure Row2 (h : AHeap) (s : Slc) (xs : List Prt) : Prop where
 len : s.len = xs.length
 at' : ∀ (i : Nat) (x : Prt), xs[i]? = some x → ∃ a c e r fz, s.a = some a ∧ a.block < h.next ∧ h.get a.block = some (.cells c e r fz) ∧ c[a.off + i * 2]? = some (.int .i64 x.1) ∧ c[a.off + i * 2 + 1]? = some (.string x.2)
theorem Row2.nil (h : AHeap) (a : Option Addr) (cap : Nat) : Row2 h ⟨a, 0, cap⟩ [] := ⟨rfl, fun i x hx => by simp at hx⟩
theorem Row2.chg {S : Nat → Prop} {h h' : AHeap} {s : Slc} {xs : List Prt} (R : Row2 h s xs) (c : Chg S h h') (hs : ∀ a, s.a = some a → ¬ S a.block) : Row2 h' s xs :=
 ⟨R.len, fun i x hx => by
  obtain ⟨a, cs, e, r, fz, h1, h2, h3, h4⟩ := R.at' i x hx
  exact ⟨a, cs, e, r, fz, h1, Nat.lt_of_lt_of_le h2 c.nx, (c.oth _ h2 (hs a h1)).trans h3, h4⟩⟩
theorem Row2.keeps {h h' : AHeap} {s : Slc} {xs : List Prt} (R : Row2 h s xs) (c : zb_ h h') : Row2 h' s xs := R.chg c fun _ _ f => f
theorem zIE_ {c : List Value} {o : Nat} {u v : Value} (h1 : c[o]? = some u) (h2 : c[o + 1]? = some v) : (c.drop o).take 2 = [u, v] := by
 rw [zHh_ h1, zHh_ h2]; rfl
theorem Row2.ld {h : AHeap} {s : Slc} {xs : List Prt} (R : Row2 h s xs) {i : Nat} {x : Prt} (hx : xs[i]? = some x) : ∃ q, idxL 2 s (i : Int) = some q ∧ ldA 2 q h = some (enc2 x) := by
 obtain ⟨a, c, e, r, fz, h1, h2, h3, h4, h5⟩ := R.at' i x hx
 have hi : i < s.len := by rw [R.len]; exact (List.getElem?_eq_some_iff.1 hx).1
 refine ⟨⟨a.block, a.off + i * 2, none⟩, ?_, ?_⟩
 ·simp only [idxL, h1]
  rw [if_pos (by omega), Int.toNat_natCast]
 ·have hlen : a.off + i * 2 + 1 < c.length := (List.getElem?_eq_some_iff.1 h5).1
  simp only [ldA, AHeap.rdL, h3]
  rw [if_pos (by omega), zIE_ h4 h5]; rfl
theorem dec2 (x : Prt) : decC [.i .i64, .s] (enc2 x) = some x := rfl
def zae_ (xs : List Prt) : List Value := xs.flatMap enc2
theorem zSw_ (xs : List Prt) : (zae_ xs).length = xs.length * 2 := by
 induction xs with
 | nil => rfl
 | cons x xs ih => simp only [zae_, List.flatMap_cons, List.length_append] at ih ⊢; rw [ih]; simp [enc2]; omega
theorem zwy_ (xs ys : List Prt) : zae_ (xs ++ ys) = zae_ xs ++ zae_ ys := by simp [zae_]
theorem zIv_ : ∀ {xs : List Prt} {i : Nat} {x : Prt}, xs[i]? = some x → (zae_ xs)[i * 2]? = some (.int .i64 x.1) ∧ (zae_ xs)[i * 2 + 1]? = some (.string x.2)
 | [], i, x, h => by simp at h
 | y :: xs, 0, x, h => by simp at h; subst h; exact ⟨rfl, rfl⟩
 | y :: xs, i + 1, x, h => by
  have := zIv_ (xs := xs) (i := i) (x := x) (by simpa using h)
  have e : zae_ (y :: xs) = .int .i64 y.1 :: .string y.2 :: zae_ xs := rfl
  rw [e, show (i + 1) * 2 = i * 2 + 1 + 1 by omega]
  simpa using this
theorem zoE_ {h : AHeap} {b n cap : Nat} {sp : Option Nat} {xs : List Prt} {e : TypeId} {r : Bool} {fz : Nat} (hb : h.get b = some (.cells (zae_ xs) e r fz)) (hl : b < h.next) (hn : n = xs.length) : Row2 h ⟨some ⟨b, 0, sp⟩, n, cap⟩ xs :=
 ⟨hn, fun i x hx => by
  obtain ⟨h1, h2⟩ := zIv_ hx
  exact ⟨_, _, _, _, _, rfl, hl, hb, by rw [Nat.zero_add]; exact h1, by rw [Nat.zero_add]; exact h2⟩⟩
structure Acc2 (base : Nat) (h : AHeap) (s : Slc) (xs : List Prt) : Prop where
 st : (s = ⟨none, 0, 0⟩ ∧ xs = []) ∨ ∃ b, s = ⟨some ⟨b, 0, some 3⟩, xs.length, xs.length⟩ ∧ h.get b = some (.cells (zae_ xs) 61 true 0) ∧ xs ≠ []
 lt : ∀ a, s.a = some a → a.block < h.next ∧ base ≤ a.block
theorem Acc2.nil (base : Nat) (h : AHeap) : Acc2 base h ⟨none, 0, 0⟩ [] := ⟨.inl ⟨rfl, rfl⟩, fun a ha => by cases ha⟩
theorem Acc2.chg {S : Nat → Prop} {base : Nat} {h h' : AHeap} {s : Slc} {xs : List Prt} (A : Acc2 base h s xs) (c : Chg S h h') (hs : ∀ a, s.a = some a → ¬ S a.block) : Acc2 base h' s xs := by
 refine ⟨A.st.imp id ?_, fun a ha => ⟨Nat.lt_of_lt_of_le (A.lt a ha).1 c.nx, (A.lt a ha).2⟩⟩
 rintro ⟨b, h1, h2, h3⟩
 have hb := A.lt ⟨b, 0, some 3⟩ (by rw [h1])
 exact ⟨b, h1, (c.oth b hb.1 (hs ⟨b, 0, some 3⟩ (by rw [h1]))).trans h2, h3⟩
theorem Acc2.keeps {base : Nat} {h h' : AHeap} {s : Slc} {xs : List Prt} (A : Acc2 base h s xs) (c : zb_ h h') : Acc2 base h' s xs := A.chg c fun _ _ f => f
theorem Acc2.row {base : Nat} {h : AHeap} {s : Slc} {xs : List Prt} (A : Acc2 base h s xs) : Row2 h s xs := by
 rcases A.st with ⟨rfl, rfl⟩ | ⟨b, rfl, h2, h3⟩
 ·exact Row2.nil _ _ _
 ·exact zoE_ h2 (A.lt ⟨b, 0, some 3⟩ rfl).1 rfl
theorem Acc2.len {base : Nat} {h : AHeap} {s : Slc} {xs : List Prt} (A : Acc2 base h s xs) : s.len = xs.length := A.row.len
theorem zJA_ {h : AHeap} {x : Prt} {e : TypeId} : Gx.rdS 2 (⟨some ⟨h.next, 0, some 0⟩, 1, 1⟩ : Slc) (h.new (.cells (enc2 x) e true 0)) = some (enc2 x) := by
 have := zxf_ (h := h.new (.cells (enc2 x) e true 0)) (b := h.next) (c := enc2 x) (e := e) (r := true) (fz := 0) (by simp)
 simpa [Gx.rdS, enc2] using this
theorem Acc2.push {base : Nat} {h : AHeap} {s : Slc} {xs : List Prt} (A : Acc2 base h s xs) (x : Prt) (hs : xs.length ≤ 1000000) (hbase : base ≤ h.next) :
  ∃ s' h', zs_ 2 24 61 h s (enc2 x) 1 = some (s', h') ∧ Acc2 base h' s' (xs ++ [x]) ∧ Chg (ofS s) h h' := by
 rcases A.st with ⟨rfl, rfl⟩ | ⟨b, rfl, h2, h3⟩
 ·refine ⟨⟨some ⟨h.next, 0, some 3⟩, 1, 1⟩, h.new (.cells (enc2 x) 61 true 0), ?_, ⟨.inr ⟨h.next, rfl, by simp [zae_], by simp⟩, ?_⟩, (zb_.new h _).wk fun _ _ f => f.elim⟩
  ·simp only [zs_]
   rw [if_neg (by omega), if_pos (by omega)]
  ·intro a ha; cases ha; simp; omega
 ·have hb := A.lt ⟨b, 0, some 3⟩ rfl
  have hl := zSw_ xs
  have e : zae_ xs ++ enc2 x = zae_ (xs ++ [x]) := by rw [zwy_]; simp [zae_]
  refine ⟨⟨some ⟨h.next, 0, some 3⟩, xs.length + 1, xs.length + 1⟩, (h.kill b).new (.cells (zae_ (xs ++ [x])) 61 true 0), ?_, ⟨.inr ⟨h.next, by simp, by simp, by simp⟩, ?_⟩, ?_⟩
  ·have hx : 0 < xs.length := List.length_pos_iff.2 h3
   simp only [zs_]
   rw [if_neg (by omega), if_pos (by omega)]
   simp only [h2]
   rw [if_pos ⟨by omega, trivial, by omega, by omega, trivial, trivial, rfl⟩, ← hl, List.take_length, e]
  ·intro a ha; cases ha; simp; omega
  ·exact Chg.kill_new (.inr ⟨⟨b, 0, some 3⟩, rfl, rfl⟩)
theorem zgE_ {h0 h h' : AHeap} {s : Slc} {xs : List Prt} (k : zb_ h0 h) (A : Acc2 h0.next h s xs) (c : Chg (ofS s) h h') : zb_ h0 h' :=
 Chg.beh k c fun x hx e => by
  obtain ⟨a, ha, rfl⟩ := e
  have := (A.lt a ha).2
  omega
theorem Acc.push' {α : Type} {enc : α → Value} {e : TypeId} {base bytes : Nat} {h : AHeap} {s : Slc} {xs : List α} (A : Acc enc e base h s xs) (ho : ∀ x, one (enc x) = true) (x : α) (hs : 2 * (xs.length + 1) * bytes ≤ 281474976710656) (h1 : 1 ≤ bytes) (hbase : base ≤ h.next) :
  ∃ s' h', zs_ 1 bytes e h s [enc x] 1 = some (s', h') ∧ Acc enc e base h' s' (xs ++ [x]) ∧ Chg (ofS s) h h' ∧ ∀ a, s'.a = some a → h.next ≤ a.block := by
 rcases A.st with ⟨rfl, rfl⟩ | ⟨b, g⟩
 ·refine ⟨⟨some ⟨h.next, 0, some 2⟩, 1, 1⟩, h.new (outB enc e [x]), ?_, ⟨.inr ⟨h.next, rfl, by simp, by simp⟩, ?_⟩, (zb_.new h _).wk fun _ _ f => f.elim, ?_⟩
  ·simp only [zs_]
   rw [if_neg (by omega), if_pos (by simp at hs ⊢; omega)]
   rfl
  ·intro a ha; cases ha; simp; omega
  ·intro a ha; cases ha; simp
 ·have hb := A.lt ⟨b, 0, some 2⟩ (by rw [g.s])
  have ap := g.append (bytes := bytes) (ys := [x]) ho (by simp) (by simpa using hs) h1
  refine ⟨_, _, ap, ⟨.inr ⟨h.next, rfl, by simp, by simp⟩, ?_⟩, Chg.kill_new (.inr ⟨⟨b, 0, some 2⟩, by rw [g.s], rfl⟩), ?_⟩
  ·intro a ha; cases ha; simp; omega
  ·intro a ha; cases ha; simp
end Gz
namespace Gz
open Go Gx Go.Proofs
def idxs (out : List Prt) : List Int := out.map (·.1)
def mapE : List Prt → Nat → List (Value × Value × Nat)
 | [], _ => []
 | x :: l, i => (.int .i64 x.1, .bool true, i) :: mapE l (i + 1)
theorem zAr_ : ∀ (l : List Prt) (x : Prt) (i : Nat), mapE (l ++ [x]) i = mapE l i ++ [(.int .i64 x.1, .bool true, i + l.length)]
 | [], x, i => rfl
 | y :: l, x, i => by
  simp only [List.cons_append, mapE, zAr_ l x (i + 1), List.length_cons]
  rw [show i + 1 + l.length = i + (l.length + 1) by omega]
theorem zGx_ (a : Int) : ∀ (out : List Prt) (b c : Nat), a ∈ idxs out → ∃ p, zUc_ (.int .i64 a) (mapE out b) c = some (some (p, .bool true))
 | [], b, c, h => by simp [idxs] at h
 | x :: l, b, c, h => by
  by_cases e : a = x.1
  ·subst e; exact ⟨c, by simp [mapE, zUc_, zfg_]⟩
  ·have : a ∈ idxs l := by simp [idxs, e] at h ⊢; exact h
   obtain ⟨p, hp⟩ := zGx_ a l (b + 1) (c + 1) this
   refine ⟨p, ?_⟩
   have hb : (a == x.1) = false := by simpa using e
   simp only [mapE, zUc_, zfg_, decide_true, cond_true, hb]
   exact hp
theorem zZr_ (a : Int) : ∀ (out : List Prt) (b c : Nat), a ∉ idxs out → zUc_ (.int .i64 a) (mapE out b) c = some none
 | [], b, c, _ => rfl
 | x :: l, b, c, h => by
  have e : a ≠ x.1 := fun e => h (by simp [idxs, e])
  have h2 : a ∉ idxs l := fun e => h (by simp [idxs] at e ⊢; exact .inr e)
  have hb : (a == x.1) = false := by simpa using e
  simp only [mapE, zUc_, zfg_, decide_true, cond_true, hb]
  exact zZr_ a l (b + 1) (c + 1) h2
theorem zXC_ {h : AHeap} {mb : Nat} {out : List Prt} (hb : h.get mb = some (.map (mapE out 0) out.length)) (a : Int) : ∃ b, zQd_ decB (.bool false) h (some mb) (.int .i64 a) = some (decide (a ∈ idxs out), b) := by
 simp only [zQd_, hb]
 by_cases e : a ∈ idxs out
 ·obtain ⟨p, hp⟩ := zGx_ a out 0 0 e
  exact ⟨true, by simp [hp, decB, e]⟩
 ·exact ⟨false, by simp [zZr_ a out 0 0 e, decB, e]⟩
theorem zqE_ {h : AHeap} {mb : Nat} {out : List Prt} (hb : h.get mb = some (.map (mapE out 0) out.length)) (x : Prt) (e : x.1 ∉ idxs out) : updE h mb (.int .i64 x.1) (.bool true) = some (h.set mb (.map (mapE (out ++ [x]) 0) (out ++ [x]).length)) := by
 simp only [updE, hb, zZr_ x.1 out 0 0 e, zAr_, Nat.zero_add, List.length_append, List.length_singleton]
def zNb_ (k m : Nat) (n : Int) (x : Prt) : Int := if ¬ (0 ≤ x.1 ∧ x.1 < ((k + m : Nat) : Int)) then 1 else if (x.2.size : Int) ≠ n then 4 else 0
def zwb_ (k : Nat) (out : List Prt) (x : Prt) : List Prt := if x.1 ∉ idxs out ∧ out.length < k then out ++ [x] else out
def unl (k m : Nat) (n : Int) : List Prt → List Prt → List Prt × Int
 | [], out => (out, 0)
 | x :: l, out => if zNb_ k m n x ≠ 0 then ([], zNb_ k m n x) else unl k m n l (zwb_ k out x)
theorem zxC_ (k0 : Nat) (D : za_) {h : AHeap} {pb f2 B sb fb k m : Nat} (p : PL h pb f2 B sb fb k m) (hR : k + m ≤ 255) (i : Int) : zPc_ k0 D (some ⟨pb, 0, none⟩) i h = some (decide (0 ≤ i ∧ i < ((k + m : Nat) : Int)), h) := by
 simp only [zPc_]
 by_cases c : i ≥ 0
 ·refine ifp (decide_eq_true c) ?_
  refine bnd rfl (bnd (zM_ p.blk rfl) (bnd rfl (bnd (zM_ p.blk rfl) ?_)))
  rw [w64 ((k : Int) + (m : Int)) (by omega)]
  have : ((k : Int) + (m : Int)) = ((k + m : Nat) : Int) := by omega
  rw [this]; congr 3; rw [eq_iff_iff]; exact ⟨fun q => ⟨c, q⟩, fun q => q.2⟩
 ·refine ifn (by simpa using c) ?_
  rw [decide_eq_false (by omega)]
abbrev ulT := Option Addr → Int → Option Nat → Slc → Slc → Int → Int → AHeap → Option ((Slc × Int) × AHeap)
theorem zTy_ (K : Nat) (D : za_) (bot : ulT) {h0 : AHeap} {pb f2 B sb fb k m : Nat} (p : PL h0 pb f2 B sb fb k m) (hR : k + m ≤ 255) (n : Int) (y : Slc) {ps : List Prt} (R : Row2 h0 y ps) (hps : ps.length ≤ 1000000) {mb : Nat} (hmb : h0.next ≤ mb) :
  ∀ (d i : Nat) (h : AHeap) (o : Slc) (out : List Prt), i + d = ps.length → zb_ h0 h → mb < h.next → h.get mb = some (.map (mapE out 0) out.length) → Acc2 (mb + 1) h o out → out.length ≤ i →
  ∃ h' o', zh_ bot (d + 1) (zN_ K D (fun (out3 : Slc) (h4 : AHeap) => some ((out3, 0), h4))) (some ⟨pb, 0, none⟩) n (some mb) o y (ps.length : Int) (i : Int) h = some ((o', (unl k m n (ps.drop i) out).2), h') ∧ zb_ h0 h' ∧ Acc2 (mb + 1) h' o' (unl k m n (ps.drop i) out).1
 | 0, i, h, o, out, hi, kh, hm, hb, A, _ => by
  obtain rfl : i = ps.length := by omega
  rw [List.drop_length]
  refine ⟨h, o, ?_, kh, A⟩
  rw [ze_]; simp only [zN_]
  exact ifn (by simp) rfl
 | d + 1, i, h, o, out, hi, kh, hm, hb, A, ho => by
  obtain ⟨x, hx⟩ := zy_ (l := ps) (i := i) (by omega)
  obtain ⟨q, i1, i2⟩ := (R.keeps kh).ld hx
  rw [zHh_ hx]
  let xb := h.next
  let h28 := (h.new (.cells [.int .i64 0, .string ⟨#[]⟩] 61 true 0)).set xb (.cells (enc2 x) 61 true 0)
  have hz : (h.new (.cells [.int .i64 0, .string ⟨#[]⟩] 61 true 0)).get xb = some (.cells [.int .i64 0, .string ⟨#[]⟩] 61 true 0) := by simp [xb]
  have k28 : zb_ h h28 := Chg.beh (zb_.new h _) (Chg.set (S := (· = xb)) (.inr rfl)) (fun w hw e => by have : w = h.next := e; omega)
  have hx28 : h28.get xb = some (.cells (enc2 x) 61 true 0) := zei_ _ _ _
  have kh28 := kh.trans k28
  have p28 := p.keeps kh28
  have hb28 : h28.get mb = some (.map (mapE out 0) out.length) := (k28.oth _ hm (fun f => f)).trans hb
  have A28 := A.keeps k28
  have n28 : h28.next = h.next + 1 := rfl
  have hst := zPs_ (sp := none) hz (n := 2) (cs := enc2 x) rfl rfl rfl (by decide)
  have hkn := zxC_ K D p28 hR x.1
  have l0 : ldI .i64 ⟨xb, 0, none⟩ h28 = some x.1 := zM_ hx28 rfl
  have l1 : ldS ⟨xb, 1, none⟩ h28 = some x.2 := zpd_ hx28 rfl
  by_cases g1 : 0 ≤ x.1 ∧ x.1 < ((k + m : Nat) : Int)
  ·by_cases g2 : (x.2.size : Int) = n
   ·have hg : zNb_ k m n x = 0 := by unfold zNb_; rw [if_neg (by simpa using g1), if_neg (by simpa using g2)]
    have hun : unl k m n (x :: ps.drop (i + 1)) out = unl k m n (ps.drop (i + 1)) (zwb_ k out x) := by simp only [unl]; rw [if_neg (by simpa using hg)]
    obtain ⟨bb, hlk⟩ := zXC_ hb28 x.1
    by_cases t : x.1 ∉ idxs out ∧ out.length < k
    ·have ht : zwb_ k out x = out ++ [x] := by unfold zwb_; rw [if_pos t]
     let h45 := h28.set mb (.map (mapE (out ++ [x]) 0) (out ++ [x]).length)
     have c45 : Chg (· = mb) h28 h45 := Chg.set (.inr rfl)
     have hx45 : h45.get xb = some (.cells (enc2 x) 61 true 0) := (c45.oth _ (by show h.next < h.next + 1; omega) (fun e => by have : h.next = mb := e; omega)).trans hx28
     let h50 := h45.new (.cells (enc2 x) 61 true 0)
     have k50 : zb_ h45 h50 := zb_.new _ _
     have A45 : Acc2 (mb + 1) h45 o out := A28.chg c45 (fun a ha e => by have : a.block = mb := e; have := (A28.lt a ha).2; omega)
     have A50 := A45.keeps k50
     obtain ⟨o2, h51, ra, A51, c51⟩ := A50.push x (by omega) (by show mb + 1 ≤ h.next + 1 + 1; omega)
     have kh45 : zb_ h0 h45 := Chg.beh kh28 c45 (fun w hw e => by have : w = mb := e; omega)
     have kh51 : zb_ h0 h51 := Chg.beh (kh45.trans k50) c51 (fun w hw e => by
      obtain ⟨a, ha, rfl⟩ := e
      have := (A50.lt a ha).2; omega)
     have hb51 : h51.get mb = some (.map (mapE (out ++ [x]) 0) (out ++ [x]).length) := by
      rw [c51.oth mb (by show mb < h.next + 1 + 1; omega) (fun e => by
       obtain ⟨a, ha, he⟩ := e
       have := (A50.lt a ha).2; omega), k50.oth mb (by show mb < h.next + 1; omega) (fun f => f)]
      exact zei_ _ _ _
     obtain ⟨h', o', r, k', A'⟩ := zTy_ K D bot p hR n y R hps hmb d (i + 1) h51 o2 (out ++ [x]) (by omega) kh51 (by have := c51.nx; have : h50.next = h.next + 1 + 1 := rfl; omega) hb51 A51 (by simp; omega)
     rw [hun, ht]
     refine ⟨h', o', ?_, k', A'⟩
     rw [ze_]; simp only [zN_]
     refine ifp (by simp; omega) ?_
     refine jn ?_
     refine bnd i1 (bnd i2 (bnd (dec2 x) ?_))
     refine bnd hst (bnd l0 (bnd hkn ?_))
     refine ifn (by simpa using g1) ?_
     refine bnd l1 ?_
     refine ifn (by simpa using g2) ?_
     refine jn ?_
     refine bnd l0 (bnd hlk ?_)
     refine ifp (by simpa using t.1) ?_
     refine bnd rfl (bnd (zM_ p28.blk rfl) ?_)
     refine ifp (by rw [A.len]; simpa using t.2) ?_
     refine bnd rfl (bnd l0 (bnd rfl ?_))
     refine bnd (zqE_ hb28 x t.1) ?_
     refine bnd rfl (bnd (zwk_ hx45 rfl) (bnd (dec2 x) ?_))
     refine bnd zJA_ (bnd ra ?_)
     rw [← w1 (i := i) (by omega)] at r
     exact r
    ·have ht : zwb_ k out x = out := by unfold zwb_; rw [if_neg t]
     obtain ⟨h', o', r, k', A'⟩ := zTy_ K D bot p hR n y R hps hmb d (i + 1) h28 o out (by omega) kh28 (by omega) hb28 A28 (by omega)
     rw [hun, ht]
     refine ⟨h', o', ?_, k', A'⟩
     rw [ze_]; simp only [zN_]
     refine ifp (by simp; omega) ?_
     refine jn ?_
     refine bnd i1 (bnd i2 (bnd (dec2 x) ?_))
     refine bnd hst (bnd l0 (bnd hkn ?_))
     refine ifn (by simpa using g1) ?_
     refine bnd l1 ?_
     refine ifn (by simpa using g2) ?_
     refine jn ?_
     refine bnd l0 (bnd hlk ?_)
     by_cases e : x.1 ∈ idxs out
     ·refine ifn (by simpa using e) ?_
      refine ifn (by decide) ?_
      rw [← w1 (i := i) (by omega)] at r
      exact r
     ·refine ifp (by simpa using e) ?_
      refine bnd rfl (bnd (zM_ p28.blk rfl) ?_)
      refine ifn (by rw [A.len]; simp; have : ¬ out.length < k := fun q => t ⟨e, q⟩; omega) ?_
      rw [← w1 (i := i) (by omega)] at r
      exact r
   ·have hg : zNb_ k m n x = 4 := by unfold zNb_; rw [if_neg (by simpa using g1), if_pos (by simpa using g2)]
    have hun : unl k m n (x :: ps.drop (i + 1)) out = ([], 4) := by simp only [unl]; rw [hg, if_pos (by decide)]
    rw [hun]
    refine ⟨h28, ⟨none, 0, 0⟩, ?_, kh28, Acc2.nil _ _⟩
    rw [ze_]; simp only [zN_]
    refine ifp (by simp; omega) ?_
    refine jn ?_
    refine bnd i1 (bnd i2 (bnd (dec2 x) ?_))
    refine bnd hst (bnd l0 (bnd hkn ?_))
    refine ifn (by simpa using g1) ?_
    refine bnd l1 ?_
    exact ifp (by simpa using g2) rfl
  ·have hg : zNb_ k m n x = 1 := by unfold zNb_; rw [if_pos g1]
   have hun : unl k m n (x :: ps.drop (i + 1)) out = ([], 1) := by simp only [unl]; rw [hg, if_pos (by decide)]
   rw [hun]
   refine ⟨h28, ⟨none, 0, 0⟩, ?_, kh28, Acc2.nil _ _⟩
   rw [ze_]; simp only [zN_]
   refine ifp (by simp; omega) ?_
   refine jn ?_
   refine bnd i1 (bnd i2 (bnd (dec2 x) ?_))
   refine bnd hst (bnd l0 (bnd hkn ?_))
   exact ifp (by rw [decide_eq_false g1]; rfl) rfl
def unlA (k m : Nat) (ps : List Prt) (long : Int) : List Prt × Int := if (zUd_ k long).2 ≠ 0 then ([], (zUd_ k long).2) else unl k m (zUd_ k long).1 ps []
theorem zdz_ {k0 : Nat} (D : za_) {h : AHeap} {pb f2 B sb fb k m : Nat} (p : PL h pb f2 B sb fb k m) (hk : 0 < k) (hR : k + m ≤ 255) {y : Slc} {ps : List Prt} (R : Row2 h y ps) (hps : ps.length ≤ 1000000) (hkp : ps.length < k0) (long : Int) :
  ∃ h' o, ztc_ k0 D (some ⟨pb, 0, none⟩) y long h = some ((o, (unlA k m ps long).2), h') ∧ zb_ h h' ∧ Acc2 (h.next + 1) h' o (unlA k m ps long).1 := by
 simp only [ztc_]
 have re := zID_ k0 D p hk (by omega) long
 unfold unlA
 by_cases c : (zUd_ k long).2 = 0
 ·rw [if_neg (by simpa using c)]
  let h2 := h.new (.map [] 0)
  have k2 : zb_ h h2 := zb_.new _ _
  obtain ⟨bot1, e1⟩ := zp_ (α := ulT) (fun _ _ _ _ _ _ _ _ => none) (zN_ k0 D fun (out3 : Slc) (h4 : AHeap) => some ((out3, 0), h4)) (show ps.length + 1 ≤ k0 by omega)
  obtain ⟨h', o', r, k', A'⟩ := zTy_ k0 D bot1 p hR (zUd_ k long).1 y R hps (mb := h.next) (Nat.le_refl _) ps.length 0 h2 ⟨none, 0, 0⟩ [] (by omega) k2 (by show h.next < h.next + 1; omega) (by simp [h2, mapE]) (Acc2.nil _ _) (by simp)
  rw [List.drop_zero] at r A'
  refine ⟨h', o', ?_, k', A'⟩
  refine bnd re ?_
  refine ifn (by simpa using c) ?_
  refine jn ?_
  rw [R.len]
  unfold zXg_
  rw [e1]
  exact r
 ·rw [if_pos (by simpa using c)]
  refine ⟨h, ⟨none, 0, 0⟩, ?_, Chg.refl _ _, Acc2.nil _ _⟩
  refine bnd re ?_
  exact ifp (by simpa using c) rfl
end Gz
namespace Gz
open Go Gx Go.Proofs
theorem zNE_ (k t : Nat) : cau k t = ((cauN k t : Nat) : Int) := by
 unfold cauN cau
 split
 ·split <;> rfl
 ·simp
theorem zzx_ (k N : Nat) : mat N (cau k) = matN N (cauN k) := zaj_ fun t _ => zNE_ k t
def invR (k : Nat) (ps : List Prt) : Nat → Nat := invU k (zeb_ k (cauN k) (zI_ (idxs ps)))
def rowI (k : Nat) (ps : List Prt) (i : Nat) : List Int := (List.range k).map fun j => ((invR k ps (i * k + j) : Nat) : Int)
def zpb_ (ps : List Prt) : List ByteArray := ps.map (·.2)
def zJc_ (k : Nat) (ps : List Prt) (i : Nat) : ByteArray := (mixA (zpb_ ps) (rowI k ps i)).1
def zO_ (k : Nat) (ps : List Prt) : List ByteArray := (List.range k).map (zJc_ k ps)
structure GoodK (k m n : Nat) (ps : List Prt) : Prop where
 len : ps.length = k
 nd : (idxs ps).Nodup
 rng : ∀ x ∈ ps, 0 ≤ x.1 ∧ x.1 < ((k + m : Nat) : Int)
 sz : ∀ x ∈ ps, x.2.size = n
theorem zgv_ {B k i N : Nat} {sp : Option Nat} (hsp : spOk sp 1 = true) (hk : 0 < k) (hi : i * k + k ≤ N) (hN : N ≤ 70000) (hi2 : i ≤ 255) : Gx.subL 1 (⟨some ⟨B, 0, sp⟩, N, N⟩ : Slc) (some (IntKind.wrap .i64 ((i : Int) * (k : Int)))) (some (IntKind.wrap .i64 ((IntKind.wrap .i64 ((i : Int) + 1)) * (k : Int)))) none = some (⟨some ⟨B, i * k, sp⟩, k, N - i * k⟩ : Slc) := by
 have e1 : (i : Int) * (k : Int) = ((i * k : Nat) : Int) := by simp
 have e3 : IntKind.wrap .i64 ((i : Int) + 1) = ((i + 1 : Nat) : Int) := by rw [w64 _ (by omega)]; omega
 have e4 : ((i + 1 : Nat) : Int) * (k : Int) = ((i * k + k : Nat) : Int) := by push_cast; rw [Int.add_mul, Int.one_mul]
 have e2 : IntKind.wrap .i64 ((i : Int) * (k : Int)) = ((i * k : Nat) : Int) := by rw [e1]; exact w64 _ (by omega)
 rw [e3, e4, e2, w64 ((i * k + k : Nat) : Int) (by omega)]
 simp only [Gx.subL, Option.getD_none, Option.getD_some]
 rw [if_pos (by omega), if_pos hsp, if_neg (by omega)]
 simp only [Int.toNat_natCast, Nat.mul_one, Nat.zero_add, Option.isSome_none, Bool.false_eq_true, if_false]
 rw [show (((i * k + k : Nat) : Int) - ((i * k : Nat) : Int)).toNat = k by omega, show ((N : Int) - ((i * k : Nat) : Int)).toNat = N - i * k by omega]
theorem zwv_ {k N : Nat} {g : Nat → Nat} {h : AHeap} {B : Nat} (hb : h.get B = some (outB encI 3 (matN N g))) (hl : B < h.next) {i : Nat} (hi : i * k + k ≤ N) (cap : Nat) (sp : Option Nat) : Row encI h (⟨some ⟨B, i * k, sp⟩, k, cap⟩ : Slc) ((List.range k).map fun j => ((g (i * k + j) : Nat) : Int)) := by
 have := Row.of_block (enc := encI) (h := h) (xs := (List.range k).map fun j => ((g (i * k + j) : Nat) : Int)) (b := B) (o := i * k) (sp := sp) (cap := cap) (c := (matN N g).map encI) (e := 3) (r := true) (fz := 0) hb hl (fun j x hx => by
  have hj : j < k := by
   have := (List.getElem?_eq_some_iff.1 hx).1; simpa using this
  have hx' : x = ((g (i * k + j) : Nat) : Int) := by simp [hj] at hx; exact hx.symm
  unfold matN
  rw [List.getElem?_map, zdd_ (show i * k + j < N by omega), hx']; rfl)
 simpa using this
theorem zKC_ (k0 : Nat) (D : za_) {h : AHeap} {pb f2 B sb fb k m : Nat} (p : PL h pb f2 B sb fb k m) (hk : 0 < k) (hk2 : k ≤ 255) {B2 : Nat} {sp : Option Nat} (hsp : spOk sp 1 = true) {i : Nat} (hi : i < k) :
  ∃ h', zZd_ k0 D (some ⟨pb, 0, none⟩) ((k : Int), (k : Int), zk_ B2 (k * k) sp) (i : Int) h = some ((⟨some ⟨B2, i * k, sp⟩, k, k * k - i * k⟩ : Slc), h') ∧ zb_ h h' := by
 simp only [zZd_]
 let h1 := h.new (.cells (zg_ (k : Int) (k : Int) (zk_ B2 (k * k) sp)) 84 true 0)
 have k1 : zb_ h h1 := zb_.new _ _
 have b1 : h1.get h.next = some (.cells (zg_ (k : Int) (k : Int) (zk_ B2 (k * k) sp)) 84 true 0) := by simp [h1]
 have p1 := p.keeps k1
 have l0 : ldI .i64 ⟨pb, 0, none⟩ h1 = some (k : Int) := zM_ p1.blk rfl
 have hle : i * k + k ≤ k * k := by have := Nat.mul_le_mul_right k hi; rw [Nat.succ_mul] at this; exact this
 have hN : k * k ≤ 65025 := Nat.le_trans (Nat.mul_le_mul hk2 hk2) (by decide)
 refine ⟨h1, ?_, k1⟩
 have hL : ldL ⟨h.next, 2, none⟩ h1 = some (zk_ B2 (k * k) sp) := by simp [ldL, AHeap.rd1, b1, zg_, decL, zk_]
 refine bnd hL (bnd rfl (bnd l0 (bnd rfl (bnd l0 ?_))))
 exact bnd (zgv_ hsp hk hle (by omega) (by omega)) rfl
theorem zQA_ {h : AHeap} {b : Nat} {v : Value} {e : TypeId} (hb : h.get b = some (.cells [v] e true 0)) : Gx.rdS 1 (⟨some ⟨b, 0, some 0⟩, 1, 1⟩ : Slc) h = some [v] := by
 have := zxf_ hb
 simpa [Gx.rdS] using this
theorem zMn_ {α β : Type} {f : α → β} {l : List α} {i : Nat} {x : α} (hx : l[i]? = some x) : (l.take i).map f ++ [f x] = (l.take (i + 1)).map f := by
 rw [List.take_add_one, hx]; simp
abbrev pc1T := Option Addr → Slc → Slc → Slc → Int → Int → AHeap → Option ((Slc) × AHeap)
theorem zjF_ (K : Nat) (D : za_) (j) (bot : pc1T) (pa : Option Addr) {h0 : AHeap} {y : Slc} {ps : List Prt} (R : Row2 h0 y ps) (hps : ps.length ≤ 1000) :
  ∀ (d i : Nat) (h : AHeap) (rs ds : Slc), i + d = ps.length → zb_ h0 h → Acc encI 3 h0.next h rs (idxs (ps.take i)) → Acc encS 9 h0.next h ds (zpb_ (ps.take i)) → zdj_ rs ds →
  ∃ h' rs' ds', zh_ bot (d + 1) (zzb_ K D j) pa rs ds y (ps.length : Int) (i : Int) h = j pa rs' ds' h' ∧ zb_ h0 h' ∧ Acc encI 3 h0.next h' rs' (idxs ps) ∧ Acc encS 9 h0.next h' ds' (zpb_ ps)
 | 0, i, h, rs, ds, hi, kh, A, Bd, _ => by
  obtain rfl : i = ps.length := by omega
  rw [List.take_length] at A Bd
  refine ⟨h, rs, ds, ?_, kh, A, Bd⟩
  rw [ze_]; simp only [zzb_]
  exact ifn (by simp) rfl
 | d + 1, i, h, rs, ds, hi, kh, A, Bd, ap => by
  obtain ⟨x, hx⟩ := zy_ (l := ps) (i := i) (by omega)
  obtain ⟨q, i1, i2⟩ := (R.keeps kh).ld hx
  let xb := h.next
  let h57 := (h.new (.cells [.int .i64 0, .string ⟨#[]⟩] 61 true 0)).set xb (.cells (enc2 x) 61 true 0)
  have hz : (h.new (.cells [.int .i64 0, .string ⟨#[]⟩] 61 true 0)).get xb = some (.cells [.int .i64 0, .string ⟨#[]⟩] 61 true 0) := by simp [xb]
  have k57 : zb_ h h57 := Chg.beh (zb_.new h _) (Chg.set (S := (· = xb)) (.inr rfl)) (fun w hw e => by have : w = h.next := e; omega)
  have hx57 : h57.get xb = some (.cells (enc2 x) 61 true 0) := zei_ _ _ _
  have n57 : h57.next = h.next + 1 := rfl
  let h58 := h57.resv 2
  have k58 : zb_ h57 h58 := ⟨by show h57.next ≤ h57.next + 2; omega, fun _ _ _ => rfl⟩
  have hx58 : h58.get xb = some (.cells (enc2 x) 61 true 0) := hx57
  let h60 := h58.set (h57.next + 0) (.cells [.int .i64 x.1] 3 true 0)
  have c60 : Chg (· = h57.next) h58 h60 := Chg.set (.inr rfl)
  have k60 : zb_ h h60 := Chg.beh (k57.trans k58) c60 (fun w hw e => by have : w = h57.next := e; omega)
  have n60 : h60.next = h.next + 3 := rfl
  have hx60 : h60.get xb = some (.cells (enc2 x) 61 true 0) := (c60.oth xb (by show h.next < h.next + 1 + 2; omega) (fun e => by have : h.next = h.next + 1 := e; omega)).trans hx58
  have b60 : h60.get (h57.next + 0) = some (.cells [encI x.1] 3 true 0) := zei_ _ _ _
  have hn0 := kh.nx
  obtain ⟨rs2, h61, ra, A61, c61, r61⟩ := Acc.push' (A.keeps k60) (bytes := 8) (fun _ => rfl) x.1 (by simp [idxs]; omega) (by decide) (by omega)
  have n61 := c61.nx
  have B61 : Acc encS 9 h0.next h61 ds (zpb_ (ps.take i)) := (Bd.keeps k60).chg c61 (fun a ha e => by
   obtain ⟨a2, ha2, he⟩ := e
   exact ap a2 a ha2 ha he.symm)
  have hx61 : h61.get xb = some (.cells (enc2 x) 61 true 0) := (c61.oth xb (by rw [n60]; show h.next < h.next + 3; omega) (fun e => by
   obtain ⟨a2, ha2, he⟩ := e
   have := (A.lt a2 ha2).1
   have : h.next = a2.block := he
   omega)).trans hx60
  let h66 := h61.set (h57.next + 1) (.cells [.string x.2] 9 true 0)
  have c66 : Chg (· = h57.next + 1) h61 h66 := Chg.set (.inr rfl)
  have b66 : h66.get (h57.next + 1) = some (.cells [encS x.2] 9 true 0) := zei_ _ _ _
  have A66 : Acc encI 3 h0.next h66 rs2 (idxs (ps.take i) ++ [x.1]) := A61.chg c66 (fun a ha e => by
   have := r61 a ha
   have : a.block = h57.next + 1 := e
   omega)
  have B66 : Acc encS 9 h0.next h66 ds (zpb_ (ps.take i)) := B61.chg c66 (fun a ha e => by
   have := (Bd.lt a ha).1
   have : a.block = h57.next + 1 := e
   omega)
  obtain ⟨ds2, h67, rb, B67, c67, r67⟩ := Acc.push' B66 (bytes := 16) zRr_ x.2 (by simp [zpb_]; omega) (by decide) (by show h0.next ≤ h61.next; omega)
  have hapart : ∀ a b, rs2.a = some a → ds.a = some b → a.block ≠ b.block := fun a b ha hb e => by
   have := r61 a ha
   have := (Bd.lt b hb).1
   omega
  have A67 : Acc encI 3 h0.next h67 rs2 (idxs (ps.take i) ++ [x.1]) := A66.chg c67 (fun a ha e => by
   obtain ⟨a2, ha2, he⟩ := e
   exact hapart a a2 ha ha2 he)
  have e1 : idxs (ps.take i) ++ [x.1] = idxs (ps.take (i + 1)) := zMn_ (f := fun z : Prt => z.1) hx
  have e2 : zpb_ (ps.take i) ++ [x.2] = zpb_ (ps.take (i + 1)) := zMn_ (f := fun z : Prt => z.2) hx
  rw [e1] at A67
  rw [e2] at B67
  have kh61 : zb_ h0 h61 := Chg.beh (kh.trans k60) c61 (fun w hw e => by
   obtain ⟨a2, ha2, rfl⟩ := e
   have := (A.lt a2 ha2).2; omega)
  have kh66 : zb_ h0 h66 := Chg.beh kh61 c66 (fun w hw e => by have : w = h57.next + 1 := e; omega)
  have kh67 : zb_ h0 h67 := zWF_ kh66 B66 c67
  have ap67 : zdj_ rs2 ds2 := fun a b ha hb e => by
   have q1 := (A66.lt a ha).1
   have q2 := r67 b hb
   omega
  obtain ⟨h', rs', ds', r, k', A', B'⟩ := zjF_ K D j bot pa R hps d (i + 1) h67 rs2 ds2 (by omega) kh67 A67 B67 ap67
  refine ⟨h', rs', ds', ?_, k', A', B'⟩
  rw [ze_]; simp only [zzb_]
  refine ifp (by simp; omega) ?_
  have hst := zPs_ (sp := none) hz (n := 2) (cs := enc2 x) rfl rfl rfl (by decide)
  refine bnd i1 (bnd i2 (bnd (dec2 x) (bnd hst ?_)))
  refine bnd (zM_ hx58 rfl) ?_
  refine bnd (zQA_ b60) (bnd ra ?_)
  refine bnd (zpd_ hx61 rfl) (gp (sw2 (bnd (zpd_ hx60 rfl) rfl) (bnd (zpd_ hx58 rfl) rfl)) ?_)
  refine bnd (zQA_ b66) (bnd rb ?_)
  rw [w1 (by omega)]
  exact r
end Gz
namespace Gz
open Go Gx Go.Proofs
theorem PL.cf {h h' : AHeap} {pb f2 B sb fb k m : Nat} (p : PL h pb f2 B sb fb k m) (c : Chg (· = f2) h h') (f : Fld h' f2) : PL h' pb f2 B sb fb k m :=
 p.fs2 ⟨c.nx, fun x hx hb => c.oth x hx hb, f⟩
abbrev pc0T := Option Addr → Slc → Option Addr → Slc → Int → Int → AHeap → Option ((Slc) × AHeap)
theorem zaF_ {k0 : Nat} (hk0 : 70000 ≤ k0) (j) (bot : pc0T) {hs : AHeap} {pb f2 B sb fb k m : Nat} (p : PL hs pb f2 B sb fb k m) (hk : 0 < k) (hk2 : k ≤ 255) {bb B2 : Nat} {sp : Option Nat} (hsp : spOk sp 1 = true) {ps : List Prt} (hlen : ps.length = k) {n : Nat} (hsz : ∀ x ∈ ps, x.2.size = n) (hn : n ≤ 66000)
  (b1 : hs.get bb = some (.cells (zg_ (k : Int) (k : Int) (zk_ B2 (k * k) sp)) 84 true 0)) (b2 : bb < hs.next) (b3 : bb ≠ f2) (d1 : hs.get B2 = some (outB encI 3 (matN (k * k) (invR k ps)))) (d2 : B2 < hs.next) (d3 : B2 ≠ f2)
  {ds : Slc} (Rd : Row encS hs ds (zpb_ ps)) (nd : ∀ a, ds.a = some a → a.block ≠ f2) :
  ∀ (d i : Nat) (h : AHeap) (o : Slc), i + d = k → Chg (· = f2) hs h → Fld h f2 → Acc encS 9 hs.next h o ((List.range i).map (zJc_ k ps)) →
  ∃ h' o', zh_ bot (d + 1) (zDb_ k0 (DD k0) j) (some ⟨pb, 0, none⟩) ds (some ⟨bb, 0, none⟩) o (k : Int) (i : Int) h = j o' h' ∧ Chg (· = f2) hs h' ∧ Fld h' f2 ∧ Acc encS 9 hs.next h' o' (zO_ k ps)
 | 0, i, h, o, hi, c, f, A => by
  obtain rfl : i = k := by omega
  refine ⟨h, o, ?_, c, f, A⟩
  rw [ze_]; simp only [zDb_]
  exact ifn (by simp) rfl
 | d + 1, i, h, o, hi, c, f, A => by
  have ph := p.cf c f
  have e1 : h.get bb = some (.cells (zg_ (k : Int) (k : Int) (zk_ B2 (k * k) sp)) 84 true 0) := (c.oth _ b2 b3).trans b1
  obtain ⟨h1, r1, k1⟩ := zKC_ k0 (DD k0) ph hk hk2 (B2 := B2) hsp (i := i) (by omega)
  have p1 := ph.keeps k1
  have c1 : Chg (· = f2) hs h1 := c.trans k1.keeps
  have Rd1 : Row encS h1 ds (zpb_ ps) := Rd.chg c1 (fun a ha e => nd a ha e)
  have g1 : h1.get B2 = some (outB encI 3 (matN (k * k) (invR k ps))) := (c1.oth _ d2 d3).trans d1
  have hle : i * k + k ≤ k * k := by have := Nat.mul_le_mul_right k (show i + 1 ≤ k by omega); rw [Nat.succ_mul] at this; exact this
  have Rc := zwv_ g1 (Nat.lt_of_lt_of_le d2 c1.nx) hle (k * k - i * k) sp
  have dl : (zpb_ ps).length = k := by simp [zpb_, hlen]
  have rl : (rowI k ps i).length = k := by simp [rowI]
  have mb : ∀ s ∈ zpb_ ps, s.size ≤ 66000 := fun s hs => by
   obtain ⟨x, hx, rfl⟩ := List.mem_map.1 hs
   rw [hsz x hx]; exact hn
  obtain ⟨h2, r2, s2⟩ := zYD_ (k := k0) (by omega) p1.fld p1.lf Rd1 Rc (fun a ha => nd a ha) (fun a ha => by cases ha; exact d3) (by rw [dl]; omega) (by rw [show ((List.range k).map fun j => ((invR k ps (i * k + j) : Nat) : Int)).length = k from rl]; omega)
   (fun x hx => by have := mb x hx; omega) (by rw [dl]; omega) (by rw [show ((List.range k).map fun j => ((invR k ps (i * k + j) : Nat) : Int)).length = k from rl]; omega) (fun x hx => by have := mb x hx; omega)
  have c2 : Chg (· = f2) hs h2 := c1.trans s2.chg
  have A1 := A.keeps k1
  have hf2 := p.lf
  have A2 : Acc encS 9 hs.next h2 o ((List.range i).map (zJc_ k ps)) := A1.chg s2.chg (fun a ha e => by have : a.block = f2 := e; have := (A1.lt a ha).2; omega)
  obtain ⟨o3, h3, ra, A3, c3, _⟩ := A2.push (bytes := 16) zRr_ (zJc_ k ps i) (by simp; omega) (by decide) c2.nx
  have e2 : (List.range i).map (zJc_ k ps) ++ [zJc_ k ps i] = (List.range (i + 1)).map (zJc_ k ps) := by rw [List.range_succ, List.map_append]; rfl
  rw [e2] at A3
  have c3' : Chg (· = f2) hs h3 := Chg.beh c2 c3 (fun x hx e => by
   obtain ⟨a, ha, rfl⟩ := e
   have := (A2.lt a ha).2; omega)
  have f3 : Fld h3 f2 := zQp_ s2.fld (Nat.lt_of_lt_of_le p1.lf s2.nx) c3 (fun e => by
   obtain ⟨a, ha, he⟩ := e
   have := (A2.lt a ha).2; omega)
  obtain ⟨h', o', r, c', f', A'⟩ := zaF_ hk0 j bot p hk hk2 hsp hlen hsz hn b1 b2 b3 d1 d2 d3 Rd nd d (i + 1) h3 o3 (by omega) c3' f3 A3
  refine ⟨h', o', ?_, c', f', A'⟩
  rw [ze_]; simp only [zDb_]
  refine ifp (by simp; omega) ?_
  refine bnd rfl (bnd (zwk_ e1 rfl) (bnd rfl ?_))
  refine bnd r1 ?_
  have q2 : ldP (⟨pb, 0 + 2, none⟩ : Addr) h1 = some (some ⟨f2, 0, none⟩) := by simp [ldP, AHeap.rd1, p1.blk, decP]
  have q3 : ldP (⟨pb, 0 + 2, none⟩ : Addr) h = some (some ⟨f2, 0, none⟩) := by simp [ldP, AHeap.rd1, ph.blk, decP]
  refine bnd rfl (bnd q2 (gp (sw1 (bnd q3 rfl)) ?_))
  refine bnd r2 ?_
  refine bnd zTj_ (bnd ra ?_)
  rw [w1 (by omega)]
  exact r
theorem zQD_ {l : List Int} (h : l.Nodup) (h0 : ∀ x ∈ l, 0 ≤ x) : (l.map Int.toNat).Nodup := by
 unfold List.Nodup at h ⊢
 rw [List.pairwise_map]
 exact h.imp_of_mem fun ha hb hne e => hne (by have := h0 _ ha; have := h0 _ hb; omega)
theorem GoodK.full {k m n : Nat} {ps : List Prt} (hk : 0 < k) (hR : k + m ≤ 255) (g : GoodK k m n ps) : rk k k (zeb_ k (cauN k) (zI_ (idxs ps))) = k ∧ El (k * k) (zeb_ k (cauN k) (zI_ (idxs ps))) ∧ (idxs ps).all (okR (k + m)) = true ∧ (∀ i, i < k → zI_ (idxs ps) i < k + m) := by
 have hl : (idxs ps).length = k := by simp [idxs, g.len]
 have hr : ∀ a ∈ idxs ps, 0 ≤ a ∧ a < ((k + m : Nat) : Int) := fun a ha => by
  obtain ⟨x, hx, rfl⟩ := List.mem_map.1 ha
  exact g.rng x hx
 have hw : ∀ i, i < k → ((idxs ps).map Int.toNat)[i]? = some (zI_ (idxs ps) i) := fun i hi => by
  obtain ⟨x, hx⟩ := zy_ (l := idxs ps) (i := i) (by omega)
  simp only [List.getElem?_map, hx, zI_]; rfl
 have hlt : ∀ x ∈ (idxs ps).map Int.toNat, x < k + m := fun x hx => by
  obtain ⟨a, ha, rfl⟩ := List.mem_map.1 hx
  have := hr a ha; omega
 have hwl : ∀ i, i < k → zI_ (idxs ps) i < k + m := fun i hi => hlt _ (zOl_ (hw i hi))
 refine ⟨zfE_ (k := k) (n := k + m) hk hR (by simpa using hl) (zQD_ g.nd fun a ha => (hr a ha).1) hlt _ hw (by omega), fun t ht => ?_, List.all_eq_true.2 fun a ha => ?_, hwl⟩
 ·have hd := (Nat.div_lt_iff_lt_mul hk).2 ht
  exact zRj_ hk (N := (k + m) * k) _ (zQb_ (hwl _ hd) (Nat.mod_lt t hk))
 ·have := hr a ha
  unfold okR
  rw [decide_eq_false (by omega), decide_eq_false (by omega)]; rfl
theorem zVz_ {k0 : Nat} (hk0 : 200000 ≤ k0) {h : AHeap} {pb f2 B sb fb k m n : Nat} (p : PL h pb f2 B sb fb k m) (hk : 0 < k) (hR : k + m ≤ 255) {y : Slc} {ps : List Prt} (R : Row2 h y ps) (g : GoodK k m n ps) (hn : n ≤ 66000) :
  ∃ h' o, zxc_ k0 (DD k0) (some ⟨pb, 0, none⟩) y h = some (o, h') ∧ PL h' pb f2 B sb fb k m ∧ Chg (fun x => x = f2 ∨ x = fb) h h' ∧ Acc encS 9 h.next h' o (zO_ k ps) := by
 simp only [zxc_]
 obtain ⟨full, hE, hok, _⟩ := g.full hk hR
 have hil : (idxs ps).length = k := by simp [idxs, g.len]
 have hN : (k + m) * k ≤ 65025 := Nat.le_trans (Nat.mul_le_mul hR (show k ≤ 255 by omega)) (by decide)
 have hkk : k * k ≤ 65025 := Nat.le_trans (Nat.mul_le_mul (show k ≤ 255 by omega) (show k ≤ 255 by omega)) (by decide)
 generalize hj5 : (fun (p1 : Option Addr) (rows2 : Slc) (data3 : Slc) (h4 : AHeap) => (p1.bind fun p6 => _ : Option ((Slc) × AHeap))) = j5
 obtain ⟨bot1, e1⟩ := zp_ (α := pc1T) (fun _ _ _ _ _ _ _ => none) (zzb_ k0 (DD k0) j5) (show ps.length + 1 ≤ k0 by rw [g.len]; omega)
 obtain ⟨h1, rs, ds, r1, k1, A1, B1⟩ := zjF_ k0 (DD k0) j5 bot1 (some ⟨pb, 0, none⟩) R (by rw [g.len]; omega) ps.length 0 h ⟨none, 0, 0⟩ ⟨none, 0, 0⟩ (by omega) (Chg.refl _ _) (Acc.nil _ _ _ _) (Acc.nil _ _ _ _) (fun a b ha _ => by cases ha)
 have p1 := p.keeps k1
 have M1 : Mx h1 B ((k + m) * k) (cauN k) := ⟨by rw [← zzx_]; exact p1.mat, p1.lb, zRj_ hk⟩
 have I1 : InM h1 (zk_ B ((k + m) * k)) (matN ((k + m) * k) (cauN k)) := M1.inM rfl
 obtain ⟨h2, X, r2, O2, k2⟩ := zOB_ hk0 (DD k0) (r := ((k + m : Nat) : Int)) (c := (k : Int)) I1 (by rw [show (matN ((k + m) * k) (cauN k)).length = (k + m) * k from zF_ _ _]; omega) A1.row
 rw [zpy_ (R := k + m) (C := k) (by omega) hR (by omega) (by omega) (zRj_ hk) (by omega) (by omega) hok, hil] at O2
 obtain ⟨⟨xr, xc, xs⟩, xcode⟩ := X
 have o1 : xr = (k : Int) := O2.r
 have o2 : xc = (k : Int) := O2.c
 have oI : InM h2 xs (matN (k * k) (zeb_ k (cauN k) (zI_ (idxs ps)))) := O2.inm
 have ooff : ∀ a, xs.a = some a → h1.next ≤ a.block := O2.off
 subst o1 o2
 have p2 := p1.keeps k2
 obtain ⟨h11, r4, k4, n4, b4⟩ := mvar (h := h2) (e := 84) (r := (k : Int)) (c := (k : Int)) (s := xs)
 let h12 := h11.resv 1
 have k12 : zb_ h11 h12 := ⟨Nat.le_succ _, fun _ _ _ => rfl⟩
 have b12 : h12.get h2.next = some (.cells (zg_ (k : Int) (k : Int) xs) 84 true 0) := b4
 have p12 := p2.keeps (k4.trans k12)
 have n12 : h12.next = h11.next + 1 := rfl
 have hs1 := p1.spc.ls
 have hs2 := p1.spc.lf
 obtain ⟨h17, Y, r17, O17, S17, c17⟩ := zpx_ hk0 p12.spc (r := (k : Int)) (c := (k : Int)) (oI.keeps (k4.trans k12)) (by rw [show (matN (k * k) (zeb_ k (cauN k) (zI_ (idxs ps)))).length = k * k from zF_ _ _]; omega) (fun a ha => by have := ooff a ha; omega)
 rw [ziA_ (by omega) (by omega) hE, if_pos full] at O17
 obtain ⟨⟨yr, yc, ys⟩, ycode⟩ := Y
 have u1 : yr = (k : Int) := O17.r
 have u2 : yc = (k : Int) := O17.c
 have uI : InM h17 ys (matN (k * k) (invR k ps)) := O17.inm
 have uoff : ∀ a, ys.a = some a → h12.next ≤ a.block := O17.off
 subst u1 u2
 have hEI : El (k * k) (invR k ps) := zFu_ hk hE
 obtain ⟨B2, sp, hys, hsp, M17⟩ := uI.mx (by have := Nat.mul_pos hk hk; omega) hEI
 have uB2 : h12.next ≤ B2 := uoff ⟨B2, 0, sp⟩ (by rw [hys]; rfl)
 subst hys
 have hf := p12.lf
 have hgl := p12.spc.lf
 have m4 := k4.nx
 have m17 := c17.nx
 let h18 := h17.set (h11.next + 0) (.cells [.int .i64 0, .int .i64 0, .slice none 0 0] 84 true 0)
 have b18 : h18.get (h11.next + 0) = some (.cells [.int .i64 0, .int .i64 0, .slice none 0 0] 84 true 0) := zei_ _ _ _
 let h19 := h18.set (h11.next + 0) (.cells (zg_ (k : Int) (k : Int) (zk_ B2 (k * k) sp)) 84 true 0)
 have b19 : h19.get (h11.next + 0) = some (.cells (zg_ (k : Int) (k : Int) (zk_ B2 (k * k) sp)) 84 true 0) := zei_ _ _ _
 have c18 : Chg (· = h11.next) h17 h18 := Chg.set (.inr rfl)
 have c19' : Chg (· = h11.next) h18 h19 := Chg.set (.inr rfl)
 have c19 : Chg (· = h11.next) h17 h19 := c18.trans c19'
 have hpl := p2.lp; have hpf := p2.lf; have hpb := p2.lb; have hps := p2.spc.ls; have hpg := p2.spc.lf
 have p17 : PL h17 pb f2 B sb fb k m := ⟨(c17.oth _ p12.lp p12.n6).trans p12.blk, zQp_ p12.fld p12.lf c17 (fun e => p12.n4 e.symm), (c17.oth _ p12.lb p12.n5).trans p12.mat, S17, Nat.lt_of_lt_of_le p12.lp c17.nx, Nat.lt_of_lt_of_le p12.lf c17.nx, Nat.lt_of_lt_of_le p12.lb c17.nx, p.n1, p.n2, p.n3, p.n4, p.n5, p.n6, p.n7, p.n8⟩
 have p19 : PL h19 pb f2 B sb fb k m := p17.chg c19 (fun e => by have : pb = h11.next := e; omega) (fun e => by have : f2 = h11.next := e; omega) (fun e => by have : B = h11.next := e; omega) (fun e => by have : sb = h11.next := e; omega) (fun e => by have : fb = h11.next := e; omega)
 have hB2g : h19.get B2 = some (outB encI 3 (matN (k * k) (invR k ps))) := (c19.oth _ M17.lt (fun e => by have : B2 = h11.next := e; omega)).trans M17.blk
 have hlB2 : B2 < h19.next := Nat.lt_of_lt_of_le M17.lt c19.nx
 have Rd12 : Row encS h12 ds (zpb_ ps) := B1.row.keeps (k2.trans (k4.trans k12))
 have Rd19 : Row encS h19 ds (zpb_ ps) := (Rd12.chg c17 (fun a ha e => by
  have := (B1.lt a ha).2
  have := p.spc.lf
  have : a.block = fb := e
  omega)).chg c19 (fun a ha e => by
  have := (B1.lt a ha).1
  have := k2.nx
  have : a.block = h11.next := e
  omega)
 have hp0f := p.lf
 obtain ⟨bot0, e0⟩ := zp_ (α := pc0T) (fun _ _ _ _ _ _ _ => none) (zDb_ k0 (DD k0) fun (out20 : Slc) (h21 : AHeap) => some (out20, h21)) (show k + 1 ≤ k0 by omega)
 obtain ⟨h', o', rf, cf, ff, Af⟩ := zaF_ (k0 := k0) (by omega) (fun (out20 : Slc) (h21 : AHeap) => some (out20, h21)) bot0 p19 hk (by omega) (bb := h11.next + 0) hsp g.len g.sz hn b19 (by show h11.next < h17.next; omega) (by show h11.next ≠ f2; omega) hB2g hlB2 (by omega) Rd19 (fun a ha e => by
  have := (B1.lt a ha).2
  omega) k 0 h19 ⟨none, 0, 0⟩ (by omega) (Chg.refl _ _) p19.fld (Acc.nil _ _ _ _)
 have K12 : zb_ h h12 := k1.trans (k2.trans (k4.trans k12))
 refine ⟨h', o', ?_, p19.cf cf ff, ?_, ⟨Af.st, fun a ha => ⟨(Af.lt a ha).1, Nat.le_trans (Nat.le_trans K12.nx (Nat.le_trans c17.nx c19.nx)) (Af.lt a ha).2⟩⟩⟩
 ·refine jn ?_
  rw [R.len]
  unfold zUg_
  rw [e1]
  refine r1.trans ?_
  subst hj5
  refine bnd rfl ?_
  have q1 : ldA 3 (⟨pb, 0 + 4, none⟩ : Addr) h1 = some (zg_ ((k + m : Nat) : Int) (k : Int) (zk_ B ((k + m) * k))) := by
   simp only [ldA, AHeap.rdL, p1.blk]; rfl
  refine bnd q1 (bnd rfl (bnd r2 (bnd r4 ?_)))
  have q3 : ldP (⟨pb, 0 + 3, none⟩ : Addr) h12 = some (some ⟨sb, 0, none⟩) := by simp [ldP, AHeap.rd1, p12.blk, decP]
  refine bnd rfl (bnd q3 (bnd (zwk_ b12 rfl) (bnd rfl (bnd r17 ?_))))
  refine bnd (zPs_ b18 rfl rfl rfl (by decide)) ?_
  refine jn ?_
  refine bnd rfl (bnd (zM_ p19.blk rfl) ?_)
  unfold zZg_
  rw [e0]
  exact rf
 ·have a1 : Chg (fun x => x = f2 ∨ x = fb) h h12 := K12.keeps
  have a2 : Chg (fun x => x = f2 ∨ x = fb) h h17 := a1.trans (c17.wk fun x _ e => .inr e)
  have a3 : Chg (fun x => x = f2 ∨ x = fb) h h19 := Chg.beh a2 c19 (fun x hx e => by
   have : x = h11.next := e
   have := (k1.trans (k2.trans k4)).nx
   omega)
  exact a3.trans (cf.wk fun x _ e => .inl e)
end Gz
namespace Gz
open Go Gx Go.Proofs
theorem zZE_ {a b : List UInt8} {i : Nat} : (addL a b)[i]? = (a[i]?).bind fun x => (b[i]?).map fun y => x ^^^ y := by
 simp only [addL, List.getElem?_zipWith]
 cases a[i]? <;> cases b[i]? <;> rfl
theorem add_zero (n : Nat) : addL (List.replicate n 0) (List.replicate n 0) = List.replicate n (0 : UInt8) := by
 simp [addL]
theorem zIA_ {n : Nat} {ls : List ByteArray} (h : zFc_ n ls = true) (h0 : ls ≠ []) : (ls.headD ⟨#[]⟩).size = n := by
 cases ls with
 | nil => exact absurd rfl h0
 | cons a t => simp only [zFc_, List.all_cons, Bool.and_eq_true, beq_iff_eq] at h; exact h.1
theorem zwG_ {n : Nat} {ls : List ByteArray} {cs : List Int} (h : zFc_ n ls = true) (hl : ls.length = cs.length) (hin : cs.all inR = true) : ∃ m, mixA ls cs = (⟨⟨mixL ls cs (List.replicate m 0)⟩⟩, 0) ∧ (ls ≠ [] → m = n) ∧ (ls = [] → m = 0) := by
 refine ⟨(ls.headD ⟨#[]⟩).size, ?_, zIA_ h, fun e => by rw [e]; rfl⟩
 unfold mixA
 have : zFc_ (ls.headD ⟨#[]⟩).size ls = true := by
  by_cases e : ls = []
  ·subst e; rfl
  ·rw [zIA_ h e]; exact h
 rw [if_pos hl, if_pos this, if_pos hin]
end Gz
namespace Gz
open Go Gx Go.Proofs Fe
def bv (l : List UInt8) (t : Nat) : Fe := of ((l[t]?.getD 0).toNat)
theorem zlC_ (c : UInt8) : c.toNat < 256 := UInt8.toNat_lt c
theorem zZG_ {a b : List UInt8} {t : Nat} (ha : t < a.length) (hb : t < b.length) : bv (addL a b) t = bv a t + bv b t := by
 unfold bv
 rw [zZE_]
 obtain ⟨x, hx⟩ := zy_ ha
 obtain ⟨y, hy⟩ := zy_ hb
 simp only [hx, hy, Option.bind_some, Option.map_some, Option.getD_some]
 rw [UInt8.toNat_xor, zts_ (zlC_ x) (zlC_ y)]
theorem zvE_ {c : Nat} (hc : c < 256) {l : List UInt8} {t : Nat} (ht : t < l.length) : bv (zrb_ c l) t = of c * bv l t := by
 unfold bv zrb_
 obtain ⟨x, hx⟩ := zy_ ht
 simp only [List.getElem?_map, hx, Option.map_some, Option.getD_some]
 have hm : mulT x.toNat c < 256 := zEc_ _ _
 rw [toNat_ofNat, Nat.mod_eq_of_lt hm, zHt_ (zlC_ x) hc, Fe.mul_comm]
theorem zJF_ (n t : Nat) : bv (List.replicate n 0) t = 0 := by
 unfold bv
 by_cases h : t < n
 ·simp [h]; rfl
 ·simp [h]; rfl
theorem zfy_ : ∀ (n : Nat) (f : Nat → Fe), sm (n + 1) f = f 0 + sm n fun i => f (i + 1)
 | 0, f => by show (0 : Fe) + f 0 = f 0 + 0; rw [Fe.zero_add, Fe.add_zero]
 | n + 1, f => by
  rw [sm_s, zfy_ n f, sm_s]
  show f 0 + sm n (fun i => f (i + 1)) + f (n + 1) = f 0 + (sm n (fun i => f (i + 1)) + f (n + 1))
  ac_rfl
theorem zGA_ {n t : Nat} (ht : t < n) : ∀ (ls : List ByteArray) (cs : List Int) (o : List UInt8), ls.length = cs.length → (∀ s ∈ ls, s.size = n) → (∀ c ∈ cs, 0 ≤ c ∧ c < 256) → o.length = n →
  bv (mixL ls cs o) t = bv o t + sm ls.length fun j => of ((cs[j]?.getD 0).toNat) * bv (bl (ls[j]?.getD ⟨#[]⟩)) t
 | [], cs, o, _, _, _, _ => by show bv o t = bv o t + 0; rw [Fe.add_zero]
 | s :: ls, [], o, h, _, _, _ => by simp at h
 | s :: ls, c :: cs, o, h, hs, hc, ho => by
  have hss : (bl s).length = n := by rw [zv_]; exact hs s (List.mem_cons_self ..)
  have hcc := hc c (List.mem_cons_self ..)
  have hsc : (zrb_ c.toNat (bl s)).length = n := by rw [zlj_]; exact hs s (List.mem_cons_self ..)
  have hol : (addL o (zrb_ c.toNat (bl s))).length = n := by simp [addL, ho, hsc]
  have ih := zGA_ ht ls cs (addL o (zrb_ c.toNat (bl s))) (by simpa using h) (fun x hx => hs x (List.mem_cons_of_mem _ hx)) (fun x hx => hc x (List.mem_cons_of_mem _ hx)) hol
  show bv (mixL ls cs (addL o (zrb_ c.toNat (bl s)))) t = _
  rw [ih, zZG_ (by omega) (by omega), zvE_ (by omega) (by omega), List.length_cons, zfy_]
  simp only [List.getElem?_cons_zero, List.getElem?_cons_succ, Option.getD_some]
  ac_rfl
theorem zGy_ {n : Nat} {ls : List ByteArray} (h : ∀ s ∈ ls, s.size = n) : zFc_ n ls = true := List.all_eq_true.2 fun s hs => by simpa using h s hs
theorem ziH_ {cs : List Int} (h : ∀ c ∈ cs, 0 ≤ c ∧ c < 256) : cs.all inR = true := List.all_eq_true.2 fun c hc => by
 have := h c hc
 unfold inR
 rw [decide_eq_false (by omega), decide_eq_false (by omega)]; rfl
theorem zOG_ {n : Nat} {ls : List ByteArray} {cs : List Int} (hne : ls ≠ []) (hl : ls.length = cs.length) (hs : ∀ s ∈ ls, s.size = n) (hc : ∀ c ∈ cs, 0 ≤ c ∧ c < 256) :
  (mixA ls cs).2 = 0 ∧ (mixA ls cs).1.size = n ∧ ∀ t, t < n → bv (bl (mixA ls cs).1) t = sm ls.length fun j => of ((cs[j]?.getD 0).toNat) * bv (bl (ls[j]?.getD ⟨#[]⟩)) t := by
 obtain ⟨m, h1, h2⟩ := zwG_ (zGy_ hs) hl (ziH_ hc)
 have hm := h2.1 hne
 subst hm
 rw [h1]
 refine ⟨rfl, ?_, fun t ht => ?_⟩
 ·rw [znc_]; exact zCl_ (zGy_ hs) (by simp)
 ·rw [zLs_, zGA_ ht ls cs _ hl hs hc (by simp), zJF_, Fe.zero_add]
theorem zCC_ {k : Nat} {f : Nat → Nat} (hf : ∀ j, j < k → f j < 256) : ∀ c ∈ (List.range k).map (fun j => ((f j : Nat) : Int)), 0 ≤ c ∧ c < 256 := fun c hc => by
 obtain ⟨j, hj, rfl⟩ := List.mem_map.1 hc
 have := hf j (List.mem_range.1 hj); omega
structure OfS (k m : Nat) (s : ByteArray) (ps : List Prt) : Prop where
 good : GoodK k m (nE k s.size) ps
 data : ∀ x ∈ ps, x.2 = zfH_ k s x.1.toNat
theorem zxy_ : ∀ xs : List (List UInt8), Lib.join xs [] = xs.flatten
 | [] => rfl
 | [x] => by simp [Lib.join, List.intercalate]
 | x :: y :: xs => by
  have := zxy_ (y :: xs)
  simp only [Lib.join, List.intercalate] at this ⊢
  rw [show List.intersperse ([] : List UInt8) (x :: y :: xs) = x :: [] :: List.intersperse [] (y :: xs) from rfl, List.flatten_cons, List.flatten_cons, this]
  simp
end Gz
namespace Gz
open Go Gx Go.Proofs
theorem zbs_ {k m n : Nat} : ∀ (ps out : List Prt), (unl k m (n : Int) ps out).2 = 0 → (idxs out).Nodup → (∀ x ∈ out, (0 ≤ x.1 ∧ x.1 < ((k + m : Nat) : Int)) ∧ x.2.size = n) → out.length ≤ k →
  (idxs (unl k m (n : Int) ps out).1).Nodup ∧ (∀ x ∈ (unl k m (n : Int) ps out).1, (0 ≤ x.1 ∧ x.1 < ((k + m : Nat) : Int)) ∧ x.2.size = n) ∧ (unl k m (n : Int) ps out).1.length ≤ k
 | [], out, _, h1, h2, h3 => ⟨h1, h2, h3⟩
 | x :: ps, out, h, h1, h2, h3 => by
  simp only [unl] at h ⊢
  by_cases g : zNb_ k m (n : Int) x = 0
  ·rw [if_neg (by simpa using g)] at h ⊢
   have hx : (0 ≤ x.1 ∧ x.1 < ((k + m : Nat) : Int)) ∧ x.2.size = n := by
    unfold zNb_ at g
    by_cases c1 : 0 ≤ x.1 ∧ x.1 < ((k + m : Nat) : Int)
    ·rw [if_neg (by simpa using c1)] at g
     by_cases c2 : (x.2.size : Int) = (n : Int)
     ·exact ⟨c1, by omega⟩
     ·rw [if_pos c2] at g; cases g
    ·rw [if_pos c1] at g; cases g
   by_cases t : x.1 ∉ idxs out ∧ out.length < k
   ·have ht : zwb_ k out x = out ++ [x] := by unfold zwb_; rw [if_pos t]
    rw [ht] at h ⊢
    refine zbs_ ps (out ++ [x]) h ?_ ?_ (by simp; omega)
    ·unfold idxs at t h1 ⊢
     rw [List.map_append, List.nodup_append]
     refine ⟨h1, by simp, fun a ha b hb e => ?_⟩
     simp at hb
     subst hb; subst e
     exact t.1 ha
    ·intro y hy
     rcases List.mem_append.1 hy with hy | hy
     ·exact h2 y hy
     ·simp at hy; subst hy; exact hx
   ·have ht : zwb_ k out x = out := by unfold zwb_; rw [if_neg t]
    rw [ht] at h ⊢
    exact zbs_ ps out h h1 h2 h3
  ·rw [if_pos (by simpa using g)] at h
   exact absurd h g
theorem zgp_ {k m : Nat} (hk : 0 < k) {ps : List Prt} {long : Int} (h : (unlA k m ps long).2 = 0) (hl : ¬ (unlA k m ps long).1.length < k) : (0 ≤ long ∧ long ≤ 65536) ∧ GoodK k m (nE k long.toNat) (unlA k m ps long).1 := by
 unfold unlA at h hl ⊢
 by_cases c : (zUd_ k long).2 = 0
 ·rw [if_neg (by simpa using c)] at h hl ⊢
  have hr : 0 ≤ long ∧ long ≤ 65536 := by
   unfold zUd_ at c
   split at c
   ·cases c
   ·omega
  obtain ⟨L, rfl⟩ : ∃ L : Nat, long = L := ⟨long.toNat, by omega⟩
  have e := zkD_ hk (L := L) (by omega)
  rw [e] at h hl ⊢
  obtain ⟨q1, q2, q3⟩ := zbs_ ps [] h (by simp [idxs]) (fun x hx => by cases hx) (by simp)
  refine ⟨hr, ⟨by simp only at hl q3 ⊢; omega, q1, fun x hx => (q2 x hx).1, fun x hx => ?_⟩⟩
  rw [Int.toNat_natCast]; exact (q2 x hx).2
 ·rw [if_pos (by simpa using c)] at h
  exact absurd h c
theorem zyi_ {k m n : Nat} (hk : 0 < k) (hR : k + m ≤ 255) {ps : List Prt} (g : GoodK k m n ps) {i : Nat} (hi : i < k) : (zJc_ k ps i).size = n := by
 obtain ⟨_, hE, _, _⟩ := g.full hk hR
 have hEI : El (k * k) (invR k ps) := zFu_ hk hE
 have dl' : (zpb_ ps).length = k := by simp [zpb_, g.len]
 have hrow : ∀ c ∈ rowI k ps i, 0 ≤ c ∧ c < 256 := zCC_ fun j hj => hEI _ (zQb_ hi hj)
 exact (zOG_ (n := n) (ls := zpb_ ps) (cs := rowI k ps i) (fun e => by rw [e] at dl'; simp at dl'; omega) (by rw [dl']; simp [rowI]) (fun x hx => by
  obtain ⟨y, hy, rfl⟩ := List.mem_map.1 hx
  exact g.sz y hy) hrow).2.1
theorem zfj_ {n : Nat} : ∀ (xs : List ByteArray), (∀ x ∈ xs, x.size = n) → ((xs.map fun x => bl x).flatten).length = xs.length * n
 | [], _ => by simp
 | x :: xs, h => by
  rw [List.map_cons, List.flatten_cons, List.length_append, zfj_ xs fun y hy => h y (List.mem_cons_of_mem _ hy), zv_, h x (List.mem_cons_self ..), List.length_cons, Nat.add_mul, Nat.one_mul, Nat.add_comm]
def zHd_ (xs : List ByteArray) : List UInt8 := (xs.map fun x => bl x).flatten
theorem zMD_ (xs : List ByteArray) : zHs_ xs ⟨#[]⟩ = ⟨⟨zHd_ xs⟩⟩ := by
 unfold zHs_
 have e : (⟨#[]⟩ : ByteArray).data.toList = [] := rfl
 rw [e, zxy_]; rfl
def cutA (k : Nat) (ps : List Prt) (long : Int) : ByteArray := ⟨⟨(zHd_ (zO_ k ps)).take long.toNat⟩⟩
theorem zFG_ {k m : Nat} (hk : 0 < k) (hR : k + m ≤ 255) {ps : List Prt} {long : Int} (hl : 0 ≤ long ∧ long ≤ 65536) (g : GoodK k m (nE k long.toNat) ps) {h : AHeap} {base : Nat} {o : Slc} (A : Acc encS 9 base h o (zO_ k ps)) :
  zps_ o (⟨#[]⟩ : ByteArray) h = some ⟨⟨zHd_ (zO_ k ps)⟩⟩ ∧ Gx.subS (⟨⟨zHd_ (zO_ k ps)⟩⟩ : ByteArray) none (some long) = some (cutA k ps long) ∧ (cutA k ps long).size = long.toNat := by
 have pl : (zO_ k ps).length = k := by simp [zO_]
 have fl : (zHd_ (zO_ k ps)).length = k * nE k long.toNat := by
  have := zfj_ (n := nE k long.toNat) (zO_ k ps) (fun x hx => by
   obtain ⟨i, hi, rfl⟩ := List.mem_map.1 hx
   exact zyi_ hk hR g (List.mem_range.1 hi))
  rw [pl] at this; exact this
 have hge := zuB_ hk long.toNat
 have hle := zIB_ hk long.toNat
 have hsz : (⟨⟨zHd_ (zO_ k ps)⟩⟩ : ByteArray).size = k * nE k long.toNat := by rw [znc_, fl]
 refine ⟨?_, ?_, ?_⟩
 ·rcases A.st with ⟨_, h2⟩ | ⟨b, G⟩
  ·rw [h2] at pl; simp at pl; omega
  ·rw [G.s]
   have hr := zxf_ G.blk
   rw [List.length_map, pl] at hr
   unfold zps_
   simp only [pl]
   have e1 : zLi_ ((zO_ k ps).map encS) = some (zO_ k ps) := zLB_ _
   rw [hr]
   simp only [Option.bind_some, e1]
   rw [zMD_, if_pos ⟨by omega, by omega, by omega, by rw [hsz]; omega⟩]
 ·have := zDq_ (s := (⟨⟨zHd_ (zO_ k ps)⟩⟩ : ByteArray)) (lo := none) (hi := some long) (i := 0) (j := long.toNat) (by simp; omega) rfl (by omega) (by rw [hsz]; exact hge)
  rw [this, List.drop_zero]; rfl
 ·unfold cutA
  rw [znc_, List.length_take, fl, Nat.min_eq_left hge]
def zEd_ (k m : Nat) (ps : List Prt) (long : Int) : ByteArray × Int :=
 if (unlA k m ps long).2 ≠ 0 then (⟨#[]⟩, (unlA k m ps long).2) else if (unlA k m ps long).1.length < k then (⟨#[]⟩, 50) else (cutA k (unlA k m ps long).1 long, 0)
theorem zvB_ {k0 : Nat} (hk0 : 200000 ≤ k0) {h : AHeap} {pb f2 B sb fb k m : Nat} (p : PL h pb f2 B sb fb k m) (hk : 0 < k) (hR : k + m ≤ 255) {y : Slc} {ps : List Prt} (R : Row2 h y ps) (hps : ps.length ≤ 100000) (long : Int) :
  ∃ h', zvd_ k0 (DD k0) (some ⟨pb, 0, none⟩) y long h = some (zEd_ k m ps long, h') ∧ PL h' pb f2 B sb fb k m ∧ Chg (fun x => x = f2 ∨ x = fb) h h' := by
 simp only [zvd_]
 obtain ⟨h1, o, r1, k1, A1⟩ := zdz_ (k0 := k0) (DD k0) p hk hR R (by omega) (by omega) long
 have p1 := p.keeps k1
 unfold zEd_
 by_cases c : (unlA k m ps long).2 = 0
 ·rw [if_neg (by simpa using c)]
  by_cases c2 : (unlA k m ps long).1.length < k
  ·rw [if_pos c2]
   refine ⟨h1, ?_, p1, k1.keeps⟩
   refine bnd r1 ?_
   refine ifn (by simpa using c) ?_
   refine bnd rfl (bnd (zM_ p1.blk rfl) ?_)
   exact ifp (by rw [A1.len]; simpa using c2) rfl
  ·rw [if_neg c2]
   obtain ⟨hl, g⟩ := zgp_ hk c c2
   have hle := zIB_ hk long.toNat
   have hn2 : nE k long.toNat ≤ k * nE k long.toNat := Nat.le_mul_of_pos_left _ hk
   obtain ⟨h2, o2, r2, p2, c3, A2⟩ := zVz_ hk0 p1 hk hR A1.row g (by omega)
   obtain ⟨j1, j2, _⟩ := zFG_ hk hR hl g A2
   refine ⟨h2, ?_, p2, k1.keeps.trans c3⟩
   refine bnd r1 ?_
   refine ifn (by simpa using c) ?_
   refine bnd rfl (bnd (zM_ p1.blk rfl) ?_)
   refine ifn (by rw [A1.len]; simp; omega) ?_
   exact bnd r2 (bnd j1 (bnd j2 rfl))
 ·rw [if_pos (by simpa using c)]
  refine ⟨h1, ?_, p1, k1.keeps⟩
  refine bnd r1 ?_
  exact ifp (by simpa using c) rfl
end Gz
namespace Gz
open Go Gx Go.Proofs
theorem zpe_ (k0 : Nat) (D : za_) (x : UInt32) (h : AHeap) {q : Int} (n : Nat) (hn : 0 < n ∧ n < 32) (hq : Go.bits .and .u64 (IntKind.wrap .u64 q) 31 = ((32 - n : Nat) : Int)) : zx_ k0 D (x.toNat : Int) q h = some (((rotr x n).toNat : Int), h) := by
 simp only [zx_, hq]
 rw [if_pos (by omega)]
 have e2 : IntKind.wrap .u64 (32 - ((32 - n : Nat) : Int)) = ((n : Nat) : Int) := by
  rw [show (32 : Int) - ((32 - n : Nat) : Int) = (n : Int) by omega]
  exact zqx_ _ (by omega) (by omega)
 rw [e2, if_pos (by omega), Int.toNat_natCast, Int.toNat_natCast]
 have m1 : min (32 - n) (IntKind.bits .u32) = 32 - n := Nat.min_eq_left (by show 32 - n ≤ 32; omega)
 have m2 : min n (IntKind.bits .u32) = n := Nat.min_eq_left (by show n ≤ 32; omega)
 rw [m1, m2]
 have p1 : (2 : Int) ^ (32 - n) = ((2 ^ (32 - n) : Nat) : Int) := by simp
 have p2 : (2 : Int) ^ n = ((2 ^ n : Nat) : Int) := by simp
 rw [p1, p2, shlU x (32 - n) (by omega), shrU x n (by omega), orU]
 rfl
theorem zgF_ (K : Nat) (D : za_) (j) (bot) {Q : List Value × AHeap → Prop} {h0 : AHeap} {b : Slc} {blk : List UInt8} (R : Row encB h0 b blk) (hl : blk.length = 64) {wb : Nat} (hwb : h0.next ≤ wb) {f : Nat → UInt32} (hf : ∀ i, i < 16 → f i = wAt blk i)
  (hj : ∀ h, zb_ h0 h → h.get wb = some (.cells (filU f 64 16) 159 true 0) → Wp (j (some ⟨wb, 0, none⟩) h) Q) :
  ∀ (d i : Nat) (h : AHeap), i + d = 16 → zb_ h0 h → h.get wb = some (.cells (filU f 64 i) 159 true 0) → Wp (zh_ bot (d + 1) (zOe_ K D j) b (some ⟨wb, 0, none⟩) (i : Int) h) Q
 | 0, i, h, hi, kp, hb => by
  obtain rfl : i = 16 := by omega
  rw [ze_]; simp only [zOe_]
  exact Wp.ifn (by simp) (hj h kp hb)
 | d + 1, i, h, hi, kp, hb => by
  rw [ze_]; simp only [zOe_]
  refine Wp.ifp (by simp; omega) ?_
  obtain ⟨x0, g0⟩ := zy_ (l := blk) (i := 4 * i) (by omega)
  obtain ⟨x1, g1⟩ := zy_ (l := blk) (i := 4 * i + 1) (by omega)
  obtain ⟨x2, g2⟩ := zy_ (l := blk) (i := 4 * i + 2) (by omega)
  obtain ⟨x3, g3⟩ := zy_ (l := blk) (i := 4 * i + 3) (by omega)
  have R' := R.keeps kp
  obtain ⟨q0, a0, c0⟩ := R'.ldB g0
  obtain ⟨q1, a1, c1⟩ := R'.ldB g1
  obtain ⟨q2, a2, c2⟩ := R'.ldB g2
  obtain ⟨q3, a3, c3⟩ := R'.ldB g3
  have e0 : IntKind.wrap .i64 (4 * (i : Int)) = ((4 * i : Nat) : Int) := sw64 (by omega) (by omega)
  have e1 : IntKind.wrap .i64 (((4 * i : Nat) : Int) + 1) = ((4 * i + 1 : Nat) : Int) := sw64 (by omega) (by omega)
  have e2 : IntKind.wrap .i64 (((4 * i : Nat) : Int) + 2) = ((4 * i + 2 : Nat) : Int) := sw64 (by omega) (by omega)
  have e3 : IntKind.wrap .i64 (((4 * i : Nat) : Int) + 3) = ((4 * i + 3 : Nat) : Int) := sw64 (by omega) (by omega)
  rw [e0, e1, e2, e3]
  refine Wp.bnd a0 (Wp.bnd c0 (Wp.bnd a1 (Wp.bnd c1 (Wp.bnd a2 (Wp.bnd c2 (Wp.bnd a3 (Wp.bnd c3 (Wp.bnd rfl (Wp.bnd (zbc_ (by omega)) ?_)))))))))
  rw [zAE_]
  have ev : be32 x0 x1 x2 x3 = f i := by rw [hf i (by omega)]; unfold wAt; rw [g0, g1, g2, g3]; rfl
  rw [ev]
  have hst : st1 ⟨wb, i, none⟩ (.int .u32 ((f i).toNat : Int)) h = some (h.set wb (.cells (filU f 64 (i + 1)) 159 true 0)) := by
   rw [zOb_ hb (by rw [zvi_ (by omega)]; omega) rfl, zOm_ (by omega)]
  refine Wp.bnd hst ?_
  rw [Gx.w1 (by omega)]
  exact zgF_ K D j bot R hl hwb hf hj d (i + 1) _ (by omega) (kp.set hwb) (zJ_ _ _ _)
theorem zfF_ (K : Nat) (D : za_) (j) (bot) {Q : List Value × AHeap → Prop} {h0 : AHeap} {wb : Nat} (hwb : h0.next ≤ wb) {m : Nat → UInt32}
  (hj : ∀ h, zb_ h0 h → h.get wb = some (.cells (filU (zu_ m) 64 64) 159 true 0) → Wp (j (some ⟨wb, 0, none⟩) h) Q) :
  ∀ (d i : Nat) (h : AHeap), i + d = 64 → 16 ≤ i → zb_ h0 h → h.get wb = some (.cells (filU (zu_ m) 64 i) 159 true 0) → Wp (zh_ bot (d + 1) (zHe_ K D j) (some ⟨wb, 0, none⟩) (i : Int) h) Q
 | 0, i, h, hi, h16, kp, hb => by
  obtain rfl : i = 64 := by omega
  rw [ze_]; simp only [zHe_]
  exact Wp.ifn (by simp) (hj h kp hb)
 | d + 1, i, h, hi, h16, kp, hb => by
  rw [ze_]; simp only [zHe_]
  refine Wp.ifp (by simp; omega) ?_
  have e15 : IntKind.wrap .i64 ((i : Int) - 15) = ((i - 15 : Nat) : Int) := sw64 (by omega) (by omega)
  have e2 : IntKind.wrap .i64 ((i : Int) - 2) = ((i - 2 : Nat) : Int) := sw64 (by omega) (by omega)
  have e16 : IntKind.wrap .i64 ((i : Int) - 16) = ((i - 16 : Nat) : Int) := sw64 (by omega) (by omega)
  have e7 : IntKind.wrap .i64 ((i : Int) - 7) = ((i - 7 : Nat) : Int) := sw64 (by omega) (by omega)
  rw [e15, e2, e16, e7]
  have ld : ∀ jj, jj < i → ldI .u32 ⟨wb, jj, none⟩ h = some ((zu_ m jj).toNat : Int) := fun jj hjj => zqb_ hb (zMy_ hjj)
  refine Wp.bnd rfl (Wp.bnd (zbc_ (by omega)) (Wp.bnd (ld _ (by omega)) (Wp.bnd rfl (Wp.bnd (zbc_ (by omega)) (Wp.bnd (ld _ (by omega)) ?_)))))
  refine Wp.bnd (zpe_ K D _ h 7 (by decide) (by decide)) (Wp.bnd (zpe_ K D _ h 18 (by decide) (by decide)) (Wp.bnd (zpe_ K D _ h 17 (by decide) (by decide)) (Wp.bnd (zpe_ K D _ h 19 (by decide) (by decide)) ?_)))
  refine Wp.bnd rfl (Wp.bnd (zbc_ (by omega)) (Wp.bnd (ld _ (by omega)) (Wp.bnd rfl (Wp.bnd (zbc_ (by omega)) (Wp.bnd (ld _ (by omega)) (Wp.bnd rfl (Wp.bnd (zbc_ (by omega)) ?_)))))))
  have s3 : Int.fdiv ((zu_ m (i - 15)).toNat : Int) 8 = ((zu_ m (i - 15) >>> 3).toNat : Int) := shrU _ 3 (by decide)
  have s10 : Int.fdiv ((zu_ m (i - 2)).toNat : Int) 1024 = ((zu_ m (i - 2) >>> 10).toNat : Int) := shrU _ 10 (by decide)
  simp only [s3, s10, xorU, addU]
  have ev : zu_ m (i - 16) + (rotr (zu_ m (i - 15)) 7 ^^^ rotr (zu_ m (i - 15)) 18 ^^^ zu_ m (i - 15) >>> 3) + zu_ m (i - 7) + (rotr (zu_ m (i - 2)) 17 ^^^ rotr (zu_ m (i - 2)) 19 ^^^ zu_ m (i - 2) >>> 10) = zu_ m i := (zvx_ h16).symm
  rw [ev]
  have hst : st1 ⟨wb, i, none⟩ (.int .u32 ((zu_ m i).toNat : Int)) h = some (h.set wb (.cells (filU (zu_ m) 64 (i + 1)) 159 true 0)) := by
   rw [zOb_ hb (by rw [zvi_ (by omega)]; omega) rfl, zOm_ (by omega)]
  refine Wp.bnd hst ?_
  rw [Gx.w1 (by omega)]
  exact zfF_ K D j bot hwb hj d (i + 1) _ (by omega) (by omega) (kp.set hwb) (zJ_ _ _ _)
theorem zjz_ {k0 : Nat} (hk : 100 ≤ k0) (D : za_) {h : AHeap} {b : Slc} {blk : List UInt8} (R : Row encB h b blk) (hl : blk.length = 64) :
  Wp (zGh_ k0 D b h) fun r => r.1 = (List.range 64).map (fun i => encU (zu_ (wAt blk) i)) ∧ zb_ h r.2 := by
 simp only [zGh_]
 let h1 := h.new (.cells (List.replicate 64 (.int .u32 0)) 159 true 0)
 have k1 : zb_ h h1 := zb_.new h _
 have g1 : h1.get h.next = some (.cells (filU (zu_ (wAt blk)) 64 0) 159 true 0) := by rw [znv_]; simp [h1]
 refine Wp.jn fun j1 hj1 => ?_
 unfold zbo_
 obtain ⟨bot1, e1⟩ := zp_ (fun _ _ _ _ => none) (zOe_ k0 D j1) (show 16 + 1 ≤ k0 by omega)
 rw [e1]
 refine zgF_ k0 D j1 bot1 R hl (Nat.le_refl _) (f := zu_ (wAt blk)) (fun i hi => zbx_ hi) ?_ 16 0 h1 (by omega) k1 g1
 intro h2 k2 g2
 subst hj1
 refine Wp.jn fun j2 hj2 => ?_
 unfold zno_
 obtain ⟨bot2, e2⟩ := zp_ (fun _ _ _ => none) (zHe_ k0 D j2) (show 48 + 1 ≤ k0 by omega)
 rw [e2]
 refine zfF_ k0 D j2 bot2 (Nat.le_refl _) ?_ 48 16 h2 (by omega) (by omega) k2 g2
 intro h3 k3 g3
 subst hj2
 rw [zHx_] at g3
 obtain ⟨L, hL⟩ : ∃ L, L = (List.range 64).map fun i => encU (zu_ (wAt blk) i) := ⟨_, rfl⟩
 rw [← hL] at g3 ⊢
 have hlen : L.length = 64 := by rw [hL]; simp
 have l3 := zpc_ (sp := none) g3 hlen
 have s3 := zkc_ (sp := none) g3 hlen hlen (by rw [hL]; exact zAk_ _ _) (by decide)
 have l4 := zpc_ (sp := none) (zJ_ h3 h.next (.cells L 159 true 0)) hlen
 have hd : decA 64 (.agg ⟨L⟩) = some L := by
  show (bif Nat.beq L.length 64 then some L else none) = some L
  rw [hlen]; rfl
 exact Wp.bnd rfl (Wp.bnd l3 (Wp.bnd rfl (Wp.bnd s3 (Wp.bnd rfl (Wp.bnd l4 (Wp.bnd hd (Wp.of ⟨rfl, k3.set (Nat.le_refl _)⟩)))))))
end Gz
namespace Gz
open Go Gx Go.Proofs
structure HS (h : AHeap) (hb : Nat) (s : St) (r : Slc) (long : Int) : Prop where
 blk : h.get hb = some (.cells (zL_ (wl s) r long) 119 true 0)
 lt : hb < h.next
theorem HS.chg {S : Nat → Prop} {h h' : AHeap} {hb : Nat} {s : St} {r : Slc} {long : Int} (H : HS h hb s r long) (c : Chg S h h') (hs : ¬ S hb) : HS h' hb s r long := ⟨(c.oth hb H.lt hs).trans H.blk, Nat.lt_of_lt_of_le H.lt c.nx⟩
theorem HS.keeps {h h' : AHeap} {hb : Nat} {s : St} {r : Slc} {long : Int} (H : HS h hb s r long) (c : zb_ h h') : HS h' hb s r long := H.chg c fun f => f
theorem ztF_ (K : Nat) (D : za_) (j) (bot) {Q : Unit × AHeap → Prop} {h0 : AHeap} (kg : KG 0 h0) {wb : Nat} {m : Nat → UInt32} (hw : h0.get wb = some (.cells ((List.range 64).map fun i => encU (m i)) 159 true 0)) (hv : Option Addr) (s : St)
  (hj : ∀ t : St, t = rounds kAt m 64 s → Wp (j hv (t.a.toNat : Int) (t.b.toNat : Int) (t.c.toNat : Int) (t.d.toNat : Int) (t.e.toNat : Int) (t.f.toNat : Int) (t.g.toNat : Int) (t.h.toNat : Int) h0) Q) :
  ∀ (d i : Nat) (t : St), i + d = 64 → t = rounds kAt m i s →
   Wp (zh_ bot (d + 1) (zNc_ K D j) hv (some ⟨wb, 0, none⟩) (t.a.toNat : Int) (t.b.toNat : Int) (t.c.toNat : Int) (t.d.toNat : Int) (t.e.toNat : Int) (t.f.toNat : Int) (t.g.toNat : Int) (t.h.toNat : Int) (i : Int) h0) Q
 | 0, i, t, hi, ht => by
  obtain rfl : i = 64 := by omega
  rw [ze_]; simp only [zNc_]
  exact Wp.ifn (by simp) (hj t ht)
 | d + 1, i, t, hi, ht => by
  rw [ze_]; simp only [zNc_]
  refine Wp.ifp (by simp; omega) ?_
  refine Wp.bnd (zpe_ K D _ h0 6 (by decide) (by decide)) (Wp.bnd (zpe_ K D _ h0 11 (by decide) (by decide)) (Wp.bnd (zpe_ K D _ h0 25 (by decide) (by decide)) ?_))
  have lw : ldI .u32 ⟨wb, i, none⟩ h0 = some ((m i).toNat : Int) := zqb_ hw (by rw [List.getElem?_map, List.getElem?_range (by omega)]; rfl)
  refine Wp.bnd (zbc_ (by omega)) (Wp.bnd (kg.ld (by omega)) (Wp.bnd rfl (Wp.bnd (zbc_ (by omega)) (Wp.bnd lw ?_))))
  refine Wp.bnd (zpe_ K D _ h0 2 (by decide) (by decide)) (Wp.bnd (zpe_ K D _ h0 13 (by decide) (by decide)) (Wp.bnd (zpe_ K D _ h0 22 (by decide) (by decide)) ?_))
  simp only [xorU, andU, notU, addU]
  rw [Gx.w1 (by omega)]
  exact ztF_ K D j bot kg hw hv s hj d (i + 1) (rnd (kAt i) (m i) t) (by omega) (by rw [ht]; rfl)
theorem zuF_ (K : Nat) (D : za_) (bot) {h0 : AHeap} {hb : Nat} {s t : St} {r : Slc} {long : Int} (hlt : hb < h0.next) :
  ∀ (d i : Nat) (h : AHeap) (l : List UInt32), i + d = 8 → l.length = 8 → (∀ j x y, j < i → (wl s)[j]? = some x → (wl t)[j]? = some y → l[j]? = some (x + y)) → (∀ j, i ≤ j → l[j]? = (wl s)[j]?) → h.get hb = some (.cells (zL_ l r long) 119 true 0) → Chg (fun x => x = hb) h0 h →
   Wp (zh_ bot (d + 1) (zIc_ K D) (some ⟨hb, 0, none⟩) ((t.a.toNat : Int), (t.b.toNat : Int), (t.c.toNat : Int), (t.d.toNat : Int), (t.e.toNat : Int), (t.f.toNat : Int), (t.g.toNat : Int), (t.h.toNat : Int)) (i : Int) h) fun q => HS q.2 hb (zvh_ s t) r long ∧ Chg (fun x => x = hb) h0 q.2
 | 0, i, h, l, hi, hl, l1, l2, hg, c => by
  obtain rfl : i = 8 := by omega
  rw [ze_]; simp only [zIc_]
  refine Wp.ifn (by simp) (Wp.of ⟨⟨?_, Nat.lt_of_lt_of_le hlt c.nx⟩, c⟩)
  have e : l = wl (zvh_ s t) := by
   apply List.ext_getElem?
   intro j
   by_cases hj : j < 8
   ·obtain ⟨x, hx⟩ := zy_ (l := wl s) (i := j) hj
    obtain ⟨y, hy⟩ := zy_ (l := wl t) (i := j) hj
    rw [l1 j x y hj hx hy]
    match j, hj with
    | 0, _ => cases hx; cases hy; rfl
    | 1, _ => cases hx; cases hy; rfl
    | 2, _ => cases hx; cases hy; rfl
    | 3, _ => cases hx; cases hy; rfl
    | 4, _ => cases hx; cases hy; rfl
    | 5, _ => cases hx; cases hy; rfl
    | 6, _ => cases hx; cases hy; rfl
    | 7, _ => cases hx; cases hy; rfl
    | n + 8, h => omega
   ·rw [List.getElem?_eq_none (by omega), List.getElem?_eq_none (by rw [zG_]; omega)]
  rw [e] at hg
  exact hg
 | d + 1, i, h, l, hi, hl, l1, l2, hg, c => by
  rw [ze_]; simp only [zIc_]
  refine Wp.ifp (by simp; omega) ?_
  refine Wp.ifp (by omega) ?_
  obtain ⟨x, hx⟩ := zy_ (l := wl s) (i := i) (by rw [zG_]; omega)
  obtain ⟨y, hy⟩ := zy_ (l := wl t) (i := i) (by rw [zG_]; omega)
  have hly : ((wl t).map encU)[((i : Int)).toNat * 1]? = some (.int .u32 (y.toNat : Int)) := by
   rw [Int.toNat_natCast, Nat.mul_one, List.getElem?_map, hy]; rfl
  refine Wp.bnd hly (Wp.bnd rfl (Wp.bnd rfl ?_))
  have hlx : l[i]? = some x := by rw [l2 i (Nat.le_refl _), hx]
  refine Wp.bnd (zbc_ (by omega)) (Wp.bnd (zqb_ hg (zxr_ hlx)) (Wp.bnd rfl (Wp.bnd (zbc_ (by omega)) ?_)))
  rw [addU]
  have hst : st1 ⟨hb, i, none⟩ (.int .u32 ((x + y).toNat : Int)) h = some (h.set hb (.cells (zL_ (l.set i (x + y)) r long) 119 true 0)) := by
   rw [zOb_ hg (by rw [zkf_ hl]; omega) rfl, zUB_ _ (by omega)]
  refine Wp.bnd hst ?_
  rw [Gx.w1 (by omega)]
  refine zuF_ K D bot hlt d (i + 1) _ (l.set i (x + y)) (by omega) (by simpa using hl) (fun j x' y' hj hx' hy' => ?_) (fun j hj => ?_) (zJ_ _ _ _) (c.trans (Chg.set (.inr rfl)))
  ·by_cases e : j = i
   ·subst e
    rw [hx] at hx'; rw [hy] at hy'
    cases hx'; cases hy'
    rw [List.getElem?_set_self (by omega)]
   ·rw [List.getElem?_set_ne (fun q => e q.symm)]
    exact l1 j x' y' (by omega) hx' hy'
  ·rw [List.getElem?_set_ne (by omega)]
   exact l2 j (by omega)
theorem zjD_ {k0 : Nat} (hk : 100 ≤ k0) (D : za_) {h : AHeap} {hb : Nat} {s : St} {r : Slc} {long : Int} (H : HS h hb s r long) (kg : KG 0 h) {b : Slc} {blk : List UInt8} (R : Row encB h b blk) (hl : blk.length = 64) :
  Wp (zjf_ k0 D (some ⟨hb, 0, none⟩) b h) fun q => HS q.2 hb (comp s blk) r long ∧ Chg (fun x => x = hb) h q.2 := by
 simp only [zjf_]
 refine Wp.call (zjz_ hk D R hl) fun a ⟨ha, ka⟩ => ?_
 obtain ⟨L, h1⟩ := a
 simp only at ha ka ⊢
 subst ha
 let h2 := h1.new (.cells (List.replicate 64 (.int .u32 0)) 159 true 0)
 have g2 : h2.get h1.next = some (.cells (List.replicate 64 (.int .u32 0)) 159 true 0) := by simp [h2]
 have s3 := zkc_ (sp := none) g2 (by simp) (show ((List.range 64).map fun i => encU (zu_ (wAt blk) i)).length = 64 by simp) (zAk_ _ _) (by decide)
 refine Wp.bnd s3 ?_
 obtain ⟨h3, e3⟩ : ∃ h3, h3 = h2.set h1.next (.cells ((List.range 64).map fun i => encU (zu_ (wAt blk) i)) 159 true 0) := ⟨_, rfl⟩
 rw [← e3]
 have k3 : zb_ h h3 := by
  rw [e3]
  exact zb_.set (ka.trans (zb_.new h1 _)) ka.nx
 have g3 : h3.get h1.next = some (.cells ((List.range 64).map fun i => encU (zu_ (wAt blk) i)) 159 true 0) := by rw [e3]; exact zJ_ _ _ _
 have H3 := H.keeps k3
 have ld : ∀ {i : Nat} {x : UInt32}, (wl s)[i]? = some x → ldI .u32 ⟨hb, i, none⟩ h3 = some (x.toNat : Int) := fun hx => zqb_ H3.blk (zxr_ hx)
 refine Wp.bnd rfl (Wp.bnd (ld (i := 0) rfl) (Wp.bnd rfl (Wp.bnd (ld (i := 1) rfl) (Wp.bnd rfl (Wp.bnd (ld (i := 2) rfl) (Wp.bnd rfl (Wp.bnd (ld (i := 3) rfl) (Wp.bnd rfl (Wp.bnd (ld (i := 4) rfl) (Wp.bnd rfl (Wp.bnd (ld (i := 5) rfl) (Wp.bnd rfl (Wp.bnd (ld (i := 6) rfl) (Wp.bnd rfl (Wp.bnd (ld (i := 7) rfl) ?_)))))))))))))))
 refine Wp.jn fun j1 hj1 => ?_
 unfold zuk_
 obtain ⟨bot1, e1⟩ := zp_ (fun _ _ _ _ _ _ _ _ _ _ _ _ => none) (zNc_ k0 D j1) (show 64 + 1 ≤ k0 by omega)
 rw [e1]
 refine ztF_ k0 D j1 bot1 (kg.chg k3 fun f => f) g3 (some ⟨hb, 0, none⟩) s ?_ 64 0 s (by omega) rfl
 intro t ht
 subst hj1
 dsimp only
 unfold zgk_
 obtain ⟨bot2, e2⟩ := zp_ (fun _ _ _ _ => none) (zIc_ k0 D) (show 8 + 1 ≤ k0 by omega)
 rw [e2]
 refine (zuF_ k0 D bot2 (h0 := h3) (s := s) (t := t) (r := r) (long := long) H3.lt 8 0 h3 (wl s) (by omega) rfl (fun j x y hj => by omega) (fun j _ => rfl) H3.blk (Chg.refl _ _)).mono ?_
 rintro q ⟨q1, q2⟩
 refine ⟨?_, (k3.keeps).trans q2⟩
 unfold comp
 rw [← ht]; exact q1
end Gz
namespace Gz
open Go Gx Go.Proofs
structure Hash (n0 : Nat) (h : AHeap) (hb : Nat) (s : St) (rest : List UInt8) (long : Nat) : Prop where
 ok : ∃ r, HS h hb s r (long : Int) ∧ Acc encB 5 n0 h r rest ∧ ∀ a, r.a = some a → a.block ≠ hb
 le : n0 ≤ hb
theorem Hash.keeps {n0 : Nat} {h h' : AHeap} {hb : Nat} {s : St} {rest : List UInt8} {long : Nat} (H : Hash n0 h hb s rest long) (c : zb_ h h') : Hash n0 h' hb s rest long := by
 obtain ⟨r, h1, h2, h3⟩ := H.ok
 exact ⟨⟨r, h1.keeps c, h2.keeps c, h3⟩, H.le⟩
theorem Hash.lt {n0 : Nat} {h : AHeap} {hb : Nat} {s : St} {rest : List UInt8} {long : Nat} (H : Hash n0 h hb s rest long) : hb < h.next := by
 obtain ⟨r, h1, _⟩ := H.ok
 exact h1.lt
theorem zoe_ {l : List UInt32} {r : Slc} {long : Int} (h : l.length = 8) : (zL_ l r long)[8]? = some (.slice r.a r.len r.cap) := by
 unfold zL_
 rw [List.getElem?_append_right (by simp [h]), List.length_map, h]; rfl
theorem ztl_ {l : List UInt32} {r : Slc} {long : Int} (h : l.length = 8) : (zL_ l r long)[9]? = some (.int .i64 long) := by
 unfold zL_
 rw [List.getElem?_append_right (by simp [h]), List.length_map, h]; rfl
theorem znz_ {l : List UInt32} {r r' : Slc} {long : Int} (h : l.length = 8) : (zL_ l r long).set 8 (.slice r'.a r'.len r'.cap) = zL_ l r' long := by
 unfold zL_
 rw [List.set_append_right _ _ (by simp [h]), List.length_map, h]; rfl
theorem ztz_ {l : List UInt32} {r : Slc} {long long' : Int} (h : l.length = 8) : (zL_ l r long).set 9 (.int .i64 long') = zL_ l r long' := by
 unfold zL_
 rw [List.set_append_right _ _ (by simp [h]), List.length_map, h]; rfl
theorem HS.setR {h : AHeap} {hb : Nat} {s : St} {r : Slc} {long : Int} (H : HS h hb s r long) (r' : Slc) : st1 ⟨hb, 8, none⟩ (.slice r'.a r'.len r'.cap) h = some (h.set hb (.cells (zL_ (wl s) r' long) 119 true 0)) ∧ HS (h.set hb (.cells (zL_ (wl s) r' long) 119 true 0)) hb s r' long := by
 refine ⟨?_, zJ_ _ _ _, by simpa using H.lt⟩
 rw [zOb_ H.blk (by rw [zkf_ (zG_ s)]; decide) rfl, znz_ (zG_ s)]
theorem HS.setL {h : AHeap} {hb : Nat} {s : St} {r : Slc} {long : Int} (H : HS h hb s r long) (long' : Int) : st1 ⟨hb, 9, none⟩ (.int .i64 long') h = some (h.set hb (.cells (zL_ (wl s) r long') 119 true 0)) ∧ HS (h.set hb (.cells (zL_ (wl s) r long') 119 true 0)) hb s r long' := by
 refine ⟨?_, zJ_ _ _ _, by simpa using H.lt⟩
 rw [zOb_ H.blk (by rw [zkf_ (zG_ s)]; decide) rfl, ztz_ (zG_ s)]
theorem zmA_ {n0 : Nat} {h : AHeap} {r : Slc} {l : List UInt8} (A : Acc encB 5 n0 h r l) {i j : Nat} (hij : i ≤ j) (hj : j ≤ l.length) (hi : Option Int) (hhi : hi = some (j : Int) ∨ (hi = none ∧ j = l.length)) :
  ∃ t, Gx.subL 1 r (some (i : Int)) hi none = some t ∧ Row encB h t ((l.take j).drop i) ∧ t.len = j - i := by
 have hlen := A.row.1
 rcases A.st with ⟨rfl, rfl⟩ | ⟨b, g⟩
 ·simp at hj
  subst hj
  obtain rfl : i = 0 := by omega
  refine ⟨⟨none, 0, 0⟩, ?_, Row.nil _ _ _ _, rfl⟩
  rcases hhi with rfl | ⟨rfl, _⟩ <;> rfl
 ·have hg := g.s
  subst hg
  have hb := A.lt ⟨b, 0, some 2⟩ rfl
  have hhv : hi.getD ((l.length : Nat) : Int) = (j : Int) := by
   rcases hhi with rfl | ⟨rfl, e⟩
   ·rfl
   ·rw [e]; rfl
  refine ⟨⟨some ⟨b, if (l.length : Int) = (i : Int) then 0 else i, some 2⟩, j - i, l.length - i⟩, ?_, ⟨?_, fun k x hx => ?_⟩, rfl⟩
  ·simp only [Gx.subL, Option.getD_none, Option.getD_some, hhv]
   rw [if_pos (by omega), if_pos (by rfl)]
   rw [show ((j : Int) - (i : Int)).toNat = j - i by omega, show ((l.length : Int) - (i : Int)).toNat = l.length - i by omega]
   simp
  ·rw [List.length_drop, List.length_take]; show j - i = min j l.length - i; omega
  ·rw [List.getElem?_drop, List.getElem?_take] at hx
   split at hx
   ·have hlt := (List.getElem?_eq_some_iff.1 hx).1
    refine ⟨_, _, _, _, _, rfl, hb.1, g.blk, ?_⟩
    simp only
    rw [if_neg (by omega), List.getElem?_map, hx]; rfl
   ·cases hx
theorem zsF_ {k0 : Nat} (hk : 100 ≤ k0) (D : za_) (j) (bot) {Q : Unit × AHeap → Prop} {n0 hb : Nat} (hn : 0 < n0) (hle : n0 ≤ hb) {long : Int} {r : Slc} {l : List UInt8} (hl : l.length ≤ 1000000000) (hr : ∀ a, r.a = some a → a.block ≠ hb) {s0 : St}
  {h0 : AHeap} (hj : ∀ h i, Chg (fun x => n0 ≤ x) h0 h → KG 0 h → HS h hb (zhb_ s0 l) r long → Acc encB 5 n0 h r l → i = 64 * (l.length / 64) → Wp (j (some ⟨hb, 0, none⟩) (i : Int) h) Q) :
  ∀ (d : Nat) (i : Nat) (s : St) (h : AHeap), l.length - i < 64 * (d + 1) → i ≤ l.length → i % 64 = 0 → zhb_ s (l.drop i) = zhb_ s0 l → Chg (fun x => n0 ≤ x) h0 h → KG 0 h → HS h hb s r long → Acc encB 5 n0 h r l →
   Wp (zh_ bot (d + 1) (zWd_ k0 D j) (some ⟨hb, 0, none⟩) (i : Int) h) Q
 | d, i, s, h, hd, hi, h6, ha, c, kg, H, A => by
  rw [ze_]; simp only [zWd_]
  refine Wp.bnd rfl (Wp.bnd (zmi_ H.blk (zoe_ (zG_ s))) ?_)
  have hlen : r.len = l.length := A.row.1
  simp only
  rw [hlen, w64 _ (by omega)]
  by_cases c1 : 64 ≤ l.length - i
  ·refine Wp.ifp (by simp; omega) ?_
   obtain ⟨d', rfl⟩ : ∃ d', d = d' + 1 := ⟨d - 1, by omega⟩
   refine Wp.bnd rfl (Wp.bnd (zmi_ H.blk (zoe_ (zG_ s))) ?_)
   have e64 : IntKind.wrap .i64 ((i : Int) + 64) = ((i + 64 : Nat) : Int) := sw64 (by omega) (by omega)
   rw [e64]
   obtain ⟨t, e1, R, tl⟩ := zmA_ A (i := i) (j := i + 64) (by omega) (by omega) (some ((i + 64 : Nat) : Int)) (.inl rfl)
   have e1' : Gx.subL 1 ⟨r.a, l.length, r.cap⟩ (some (i : Int)) (some ((i + 64 : Nat) : Int)) none = some t := by
    rw [← hlen]; exact e1
   refine Wp.bnd e1' ?_
   have hblk : ((l.take (i + 64)).drop i).length = 64 := by rw [List.length_drop, List.length_take]; omega
   refine Wp.call (zjD_ hk D H kg R hblk) fun q ⟨q1, q2⟩ => ?_
   have q2' : Chg (fun x => n0 ≤ x) h q.2 := q2.wk fun x _ e => by have e : x = hb := e; show n0 ≤ x; omega
   refine zsF_ hk D j bot hn hle hl hr hj d' (i + 64) _ q.2 (by omega) (by omega) (by omega) ?_ (c.trans q2') (kg.chg q2 (by omega)) q1 (A.chg q2 fun a ha e => hr a ha e)
   rw [← ha, zMk_ (l := l.drop i) (by rw [List.length_drop]; exact c1), List.drop_drop]
   congr 2
   rw [List.drop_take, show i + 64 - i = 64 by omega]
  ·refine Wp.ifn (by simp; omega) ?_
   have hd2 : zhb_ s (l.drop i) = s := zNk_ (by rw [List.length_drop]; omega)
   rw [hd2] at ha
   subst ha
   exact hj h i c kg H A (by omega)
theorem zzs_ {k0 : Nat} (hk : 100 ≤ k0) (D : za_) {n0 : Nat} {h : AHeap} {hb : Nat} {s : St} {rest : List UInt8} {long : Nat} (H : Hash n0 h hb s rest long) (kg : KG 0 h) (hn : 0 < n0) (t : ByteArray) (hlong : long + t.size ≤ 100000000) (hrest : rest.length ≤ 100000000) (hkt : rest.length + t.size < 64 * k0) :
  Wp (zgd_ k0 D (some ⟨hb, 0, none⟩) t h) fun q => Hash n0 q.2 hb (zhb_ s (rest ++ bl t)) (zcc_ (rest ++ bl t)) (long + t.size) ∧ Chg (fun x => n0 ≤ x) h q.2 := by
 obtain ⟨⟨r, HS0, A0, hr⟩, hle⟩ := H
 simp only [zgd_]
 have e1 : IntKind.wrap .i64 ((long : Int) + (t.size : Int)) = ((long + t.size : Nat) : Int) := sw64 (by omega) (by omega)
 obtain ⟨s1, H1⟩ := HS0.setL ((long + t.size : Nat) : Int)
 refine Wp.bnd rfl (Wp.bnd (zqb_ HS0.blk (ztl_ (zG_ s))) (Wp.bnd rfl (Wp.bnd (by rw [e1]; exact s1) ?_)))
 obtain ⟨h1, eh1⟩ : ∃ h1, h1 = h.set hb (.cells (zL_ (wl s) r ((long + t.size : Nat) : Int)) 119 true 0) := ⟨_, rfl⟩
 rw [← eh1] at H1 ⊢
 have c1 : Chg (fun x => x = hb) h h1 := by rw [eh1]; exact Chg.set (.inr rfl)
 have A1 := A0.chg c1 fun a ha e => hr a ha e
 have n1 : n0 ≤ h1.next := Nat.le_trans hle (Nat.le_of_lt H1.lt)
 obtain ⟨r2, h2, e2, A2, c2, f2⟩ := A1.app (bytes := 1) (fun _ => rfl) (bl t) (by rw [zv_]; omega) (by omega) n1
 rw [zv_] at e2
 refine Wp.bnd rfl (Wp.bnd (zmi_ H1.blk (zoe_ (zG_ s))) ?_)
 rw [zpv_]
 refine Wp.bnd e2 ?_
 have H2 : HS h2 hb s r ((long + t.size : Nat) : Int) := H1.chg c2 fun ⟨a, ha, e⟩ => hr a ha e.symm
 have hr2 : ∀ a, r2.a = some a → a.block ≠ hb := fun a ha e => by
  rcases f2 a ha with f | f
  ·have := H1.lt; omega
  ·exact hr a f e
 obtain ⟨s3, H3⟩ := H2.setR r2
 refine Wp.bnd rfl (Wp.bnd s3 ?_)
 obtain ⟨h3, eh3⟩ : ∃ h3, h3 = h2.set hb (.cells (zL_ (wl s) r2 ((long + t.size : Nat) : Int)) 119 true 0) := ⟨_, rfl⟩
 rw [← eh3] at H3 ⊢
 have c3 : Chg (fun x => x = hb) h2 h3 := by rw [eh3]; exact Chg.set (.inr rfl)
 have A3 := A2.chg c3 fun a ha e => hr2 a ha e
 have w1' : Chg (fun x => n0 ≤ x) h h1 := c1.wk fun x _ e => by have e : x = hb := e; show n0 ≤ x; omega
 have w2 : Chg (fun x => n0 ≤ x) h1 h2 := c2.wk fun x _ ⟨a, ha, e⟩ => by have := (A1.lt a ha).2; show n0 ≤ x; omega
 have w3 : Chg (fun x => n0 ≤ x) h2 h3 := c3.wk fun x _ e => by have e : x = hb := e; show n0 ≤ x; omega
 have W3 := w1'.trans (w2.trans w3)
 refine Wp.jn fun j1 hj1 => ?_
 unfold zyj_
 obtain ⟨d, hd⟩ : ∃ d, d = (rest ++ bl t).length / 64 := ⟨_, rfl⟩
 have hll : (rest ++ bl t).length = rest.length + t.size := by rw [List.length_append, zv_]
 obtain ⟨bot1, eb⟩ := zp_ (fun _ _ _ => none) (zWd_ k0 D j1) (show d + 1 ≤ k0 by omega)
 rw [eb]
 refine zsF_ hk D j1 bot1 hn hle (s0 := s) (h0 := h3) (l := rest ++ bl t) (by omega) hr2 ?_ d 0 s h3 (by omega) (by omega) rfl rfl (Chg.refl _ _) (kg.chg W3 (by omega)) H3 A3
 intro h4 i c4 kg4 H4 A4 hi
 subst hj1
 obtain ⟨u, u1, u2, u3⟩ := zmA_ A4 (i := i) (j := (rest ++ bl t).length) (by omega) (Nat.le_refl _) none (.inr ⟨rfl, rfl⟩)
 have hlen : r2.len = (rest ++ bl t).length := A4.row.1
 refine Wp.bnd rfl (Wp.bnd (zmi_ H4.blk (zoe_ (zG_ _))) (Wp.bnd u1 (Wp.bnd u2.rdS ?_)))
 have n4 : n0 ≤ h4.next := Nat.le_trans hle (Nat.le_of_lt H4.lt)
 have er : ((rest ++ bl t).take (rest ++ bl t).length).drop i = zcc_ (rest ++ bl t) := by rw [List.take_length, hi]; rfl
 rw [er]
 obtain ⟨r5, h5, e5, A5, c5, f5⟩ := (Acc.nil encB 5 n0 h4).app (bytes := 1) (fun _ => rfl) (zcc_ (rest ++ bl t)) (by rw [zKg_]; simp; omega) (by omega) n4
 have ul : u.len = (zcc_ (rest ++ bl t)).length := by rw [u3, ← er, List.length_drop, List.take_length]
 rw [← ul] at e5
 refine Wp.bnd e5 ?_
 have k5 : zb_ h4 h5 := c5.wk fun x _ ⟨a, ha, _⟩ => by cases ha
 have H5 := H4.keeps k5
 obtain ⟨s6, H6⟩ := H5.setR r5
 have hr5 : ∀ a, r5.a = some a → a.block ≠ hb := fun a ha e => by
  rcases f5 a ha with f | f
  ·have := H4.lt; omega
  ·cases f
 refine Wp.bnd rfl (Wp.bnd s6 (Wp.of ⟨⟨⟨r5, H6, ?_, hr5⟩, hle⟩, ?_⟩))
 ·exact (A5.chg (Chg.set (S := fun x => x = hb) (.inr rfl)) fun a ha e => hr5 a ha e)
 ·refine W3.trans (c4.trans ((k5.keeps).trans (Chg.set (.inr hle))))
end Gz
namespace Gz
open Go Gx Go.Proofs
theorem zsD_ (k0 : Nat) (D : za_) (h : AHeap) : ∃ h' hb, zPl_ k0 D h = some (some ⟨hb, 0, none⟩, h') ∧ zb_ h h' ∧ h.next ≤ hb ∧ Hash h.next h' hb st0 [] 0 := by
 have first : zOi_ k0 D h = some (((st0.a.toNat : Int), (st0.b.toNat : Int), (st0.c.toNat : Int), (st0.d.toNat : Int), (st0.e.toNat : Int), (st0.f.toNat : Int), (st0.g.toNat : Int), (st0.h.toNat : Int)), (h.new (.cells [.int .u32 0, .int .u32 0, .int .u32 0, .int .u32 0, .int .u32 0, .int .u32 0, .int .u32 0, .int .u32 0] 104 true 0)).set h.next (.cells ((wl st0).map encU) 104 true 0)) := by
  simp only [zOi_]
  have g1 : (h.new (.cells [.int .u32 0, .int .u32 0, .int .u32 0, .int .u32 0, .int .u32 0, .int .u32 0, .int .u32 0, .int .u32 0] 104 true 0)).get h.next = some (.cells [.int .u32 0, .int .u32 0, .int .u32 0, .int .u32 0, .int .u32 0, .int .u32 0, .int .u32 0, .int .u32 0] 104 true 0) := by simp
  have s1 := zkc_ (sp := none) g1 rfl (show ((wl st0).map encU).length = 8 from rfl) rfl (by decide)
  refine bnd s1 (bnd (zpc_ (zJ_ _ _ _) rfl) (bnd rfl rfl))
 simp only [zPl_]
 let h1 := (h.new (.cells [.int .u32 0, .int .u32 0, .int .u32 0, .int .u32 0, .int .u32 0, .int .u32 0, .int .u32 0, .int .u32 0] 104 true 0)).set h.next (.cells ((wl st0).map encU) 104 true 0)
 have k1 : zb_ h h1 := zb_.set (zb_.new h _) (Nat.le_refl _)
 have n1 : h1.next = h.next + 1 := by simp [h1]
 refine ⟨h1.new (.cells (zL_ (wl st0) ⟨none, 0, 0⟩ 0) 119 true 0), h1.next, bnd first rfl, k1.trans (zb_.new _ _), by omega, ⟨⟨⟨none, 0, 0⟩, ⟨by simp, by simp⟩, Acc.nil _ _ _ _, fun a ha => by cases ha⟩, by omega⟩⟩
theorem zRD_ (k0 : Nat) (D : za_) {n0 : Nat} {h : AHeap} {hb : Nat} {s : St} {rest : List UInt8} {long : Nat} (H : Hash n0 h hb s rest long) (hr : rest.length ≤ 100000000) :
  ∃ h' eb, zmf_ k0 D (some ⟨hb, 0, none⟩) h = some (some ⟨eb, 0, none⟩, h') ∧ zb_ h h' ∧ Hash h.next h' eb s rest long ∧ Hash n0 h' hb s rest long := by
 have H0 := H
 obtain ⟨⟨r, HS0, A0, hne⟩, hle⟩ := H
 simp only [zmf_]
 obtain ⟨r3, h3, e3, A3, c3, f3⟩ := (Acc.nil encB 5 h.next h).app (bytes := 1) (fun _ => rfl) rest (by simp; omega) (by omega) (Nat.le_refl _)
 have hlen : r.len = rest.length := A0.row.1
 rw [← hlen] at e3
 have k3 : zb_ h h3 := c3.wk fun x _ ⟨a, ha, _⟩ => by cases ha
 have H3 := HS0.keeps k3
 have tk : (zL_ (wl s) r (long : Int)).take 8 = (wl s).map encU := rfl
 have ldw : ∀ {g : AHeap}, HS g hb s r (long : Int) → ldA 8 ⟨hb, 0, none⟩ g = some ((wl s).map encU) := fun {g} Hg => by
  have := zNv_ (sp := none) Hg.blk (show 0 < 8 by decide) (by rw [zkf_ (zG_ s)]; decide)
  rw [tk] at this; exact this
 have ldl : ∀ {g : AHeap}, HS g hb s r (long : Int) → ldI .i64 ⟨hb, 9, none⟩ g = some (long : Int) := fun {g} Hg => zqb_ Hg.blk (ztl_ (zG_ s))
 refine ⟨h3.new (.cells (zL_ (wl s) r3 (long : Int)) 119 true 0), h3.next, ?_, k3.trans (zb_.new _ _), ⟨⟨r3, ⟨by simp, by simp⟩, A3.keeps (zb_.new _ _), fun a ha => ?_⟩, k3.nx⟩, H0.keeps (k3.trans (zb_.new _ _))⟩
 ·refine bnd rfl (bnd (zmi_ HS0.blk (zoe_ (zG_ s))) (bnd A0.row.rdS (bnd e3 (bnd rfl (bnd (ldw H3) ?_)))))
  refine gp (ssw1 ?_) (bnd rfl (bnd rfl (bnd (ldl H3) (gp (ssw1 ?_) rfl))))
  ·show (ldA 8 ⟨hb, 0, none⟩ h).bind _ = _
   rw [ldw HS0]; rfl
  ·show (ldI .i64 ⟨hb, 9, none⟩ h).bind _ = _
   rw [ldl HS0]; rfl
 ·have := (A3.lt a ha).1
  omega
theorem zkH_ {k0 : Nat} (D : za_) (j) (bot) {Q : ByteArray × AHeap → Prop} {n0 eb hb : Nat} {s : St} {rest : List UInt8} {long : Nat} (hrl : rest.length < 64) {h0 : AHeap}
  (hj : ∀ h t, zb_ h0 h → Lst encB 5 h0.next h t (128 :: List.replicate (zH_ rest.length) 0) → Wp (j (some ⟨hb, 0, none⟩) (some ⟨eb, 0, none⟩) t h) Q) (H : Hash n0 h0 eb s rest long) :
  ∀ (d i : Nat) (t : Slc) (h : AHeap), i + d = zH_ rest.length → zb_ h0 h → Lst encB 5 h0.next h t (128 :: List.replicate i 0) →
   Wp (zh_ bot (d + 1) (zid_ k0 D j) (some ⟨hb, 0, none⟩) (some ⟨eb, 0, none⟩) t h) Q := fun d => by
 induction d with
 | zero =>
  intro i t h hi kp L
  rw [ze_]; simp only [zid_]
  obtain ⟨r, H1, A1, _⟩ := (H.keeps kp).ok
  refine Wp.bnd rfl (Wp.bnd (zmi_ H1.blk (zoe_ (zG_ s))) ?_)
  have hl : r.len = rest.length := A1.row.1
  have tl := L.len
  rw [List.length_cons, List.length_replicate] at tl
  have e : Int.tmod (IntKind.wrap .i64 ((r.len : Int) + (t.len : Int))) 64 = 56 := by
   rw [hl, tl, w64 _ (by unfold zH_ at hi; omega), Int.tmod_eq_emod_of_nonneg (by omega)]
   unfold zH_ at hi; omega
  rw [e]
  refine Wp.ifn (by simp) ?_
  have : i = zH_ rest.length := by omega
  subst this
  exact hj h t kp L
 | succ d ih =>
  intro i t h hi kp L
  rw [ze_]; simp only [zid_]
  obtain ⟨r, H1, A1, _⟩ := (H.keeps kp).ok
  refine Wp.bnd rfl (Wp.bnd (zmi_ H1.blk (zoe_ (zG_ s))) ?_)
  have hl : r.len = rest.length := A1.row.1
  have tl := L.len
  rw [List.length_cons, List.length_replicate] at tl
  have e : Int.tmod (IntKind.wrap .i64 ((r.len : Int) + (t.len : Int))) 64 ≠ 56 := by
   rw [hl, tl, w64 _ (by unfold zH_ at hi; omega), Int.tmod_eq_emod_of_nonneg (by omega)]
   unfold zH_ at hi; omega
  refine Wp.ifp (by simpa using e) ?_
  refine Wp.bnd zTj_ ?_
  have k1 : zb_ h (h.new (.cells [.int .u8 0] 5 true 0)) := zb_.new h _
  obtain ⟨t', h', e1, L', c1⟩ := (L.chg k1 fun _ _ f => f).app (bytes := 1) (fun _ => rfl) [0] (by simp) (by simp; unfold zH_ at hi; omega) (by omega) (Nat.le_trans kp.nx k1.nx)
  refine Wp.bnd e1 ?_
  refine ih (i + 1) t' h' (by omega) ?_ ?_
  ·exact Chg.beh (kp.trans k1) c1 fun x hx e => by have e : h0.next ≤ x := e; omega
  ·rw [List.replicate_succ']; simpa using L'
theorem zEl_ (n : Nat) : (be64 n).length = 8 := rfl
theorem zdE_ (n : Nat) : ∀ j, j < 8 → (be64 n)[j]? = some (b8 (n / 2 ^ (56 - 8 * j)))
 | 0, _ => rfl
 | 1, _ => rfl
 | 2, _ => rfl
 | 3, _ => rfl
 | 4, _ => rfl
 | 5, _ => rfl
 | 6, _ => rfl
 | 7, _ => by show some (b8 n) = some (b8 (n / 2 ^ 0)); rw [Nat.pow_zero, Nat.div_one]
 | n + 8, h => by omega
theorem zSo_ (n : Nat) : IntKind.wrap .u8 (n : Int) = ((b8 n).toNat : Int) := by
 rw [Go.IntKind.wrap_u8]
 unfold b8
 rw [UInt8.toNat_ofNat']
 omega
theorem zKH_ {k0 : Nat} (D : za_) (j) (bot) {Q : ByteArray × AHeap → Prop} {e : Option Addr} {base : List UInt8} (hbl : base.length ≤ 1000) (c : Nat) {h0 : AHeap}
  (hj : ∀ h t, zb_ h0 h → Lst encB 5 h0.next h t (base ++ be64 c) → Wp (j e t h) Q) :
  ∀ (d i : Nat) (t : Slc) (h : AHeap), i + d = 8 → zb_ h0 h → Lst encB 5 h0.next h t (base ++ (be64 c).take i) →
   Wp (zh_ bot (d + 1) (zqd_ k0 D j) e t (c : Int) (56 - 8 * (i : Int)) h) Q := fun d => by
 induction d with
 | zero =>
  intro i t h hi kp L
  rw [ze_]; simp only [zqd_]
  obtain rfl : i = 8 := by omega
  have e8 : (be64 c).take 8 = be64 c := rfl
  rw [e8] at L
  exact Wp.ifn (by simp) (hj h t kp L)
 | succ d ih =>
  intro i t h hi kp L
  rw [ze_]; simp only [zqd_]
  refine Wp.ifp (by simp; omega) ?_
  refine Wp.ifp (by omega) ?_
  have es : (56 - 8 * (i : Int)).toNat = 56 - 8 * i := by omega
  have em : min (56 - 8 * i) (IntKind.bits .u64) = 56 - 8 * i := Nat.min_eq_left (by show 56 - 8 * i ≤ 64; omega)
  have ep : (2 : Int) ^ (56 - 8 * i) = ((2 ^ (56 - 8 * i) : Nat) : Int) := by simp
  have ef : Int.fdiv (c : Int) ((2 ^ (56 - 8 * i) : Nat) : Int) = ((c / 2 ^ (56 - 8 * i) : Nat) : Int) := by
   rw [Int.fdiv_eq_ediv_of_nonneg _ (Int.natCast_nonneg _)]; simp
  rw [es, em, ep, ef, zSo_]
  refine Wp.bnd zTj_ ?_
  have k1 : zb_ h (h.new (.cells [.int .u8 ((b8 (c / 2 ^ (56 - 8 * i))).toNat : Int)] 5 true 0)) := zb_.new h _
  obtain ⟨t', h', e1, L', c1⟩ := (L.chg k1 fun _ _ f => f).app (bytes := 1) (fun _ => rfl) [b8 (c / 2 ^ (56 - 8 * i))] (by simp) (by rw [List.length_append, List.length_take, zEl_]; simp; omega) (by omega) (Nat.le_trans kp.nx k1.nx)
  refine Wp.bnd e1 ?_
  have ew : IntKind.wrap .i64 (56 - 8 * (i : Int) - 8) = 56 - 8 * ((i + 1 : Nat) : Int) := by rw [w64 _ (by omega)]; omega
  rw [ew]
  refine ih (i + 1) t' h' (by omega) ?_ ?_
  ·exact Chg.beh (kp.trans k1) c1 fun x hx e => by have e : h0.next ≤ x := e; omega
  ·rw [List.take_add_one, zdE_ c i (by omega)]
   simpa using L'
theorem zVD_ (x : UInt32) : [Value.int .u8 (IntKind.wrap .u8 (Int.fdiv (x.toNat : Int) 16777216)), .int .u8 (IntKind.wrap .u8 (Int.fdiv (x.toNat : Int) 65536)), .int .u8 (IntKind.wrap .u8 (Int.fdiv (x.toNat : Int) 256)), .int .u8 (IntKind.wrap .u8 (x.toNat : Int))] = (zib_ x).map encB := by
 have e1 : Int.fdiv (x.toNat : Int) 16777216 = ((x.toNat / 16777216 : Nat) : Int) := by rw [Int.fdiv_eq_ediv_of_nonneg _ (by omega)]; simp
 have e2 : Int.fdiv (x.toNat : Int) 65536 = ((x.toNat / 65536 : Nat) : Int) := by rw [Int.fdiv_eq_ediv_of_nonneg _ (by omega)]; simp
 have e3 : Int.fdiv (x.toNat : Int) 256 = ((x.toNat / 256 : Nat) : Int) := by rw [Int.fdiv_eq_ediv_of_nonneg _ (by omega)]; simp
 rw [e1, e2, e3, zSo_, zSo_, zSo_, zSo_]; rfl
theorem zSx_ (s : St) : zzh_ s = ((wl s).map zib_).flatten := by simp [zzh_, wl]
theorem zHH_ {k0 : Nat} (D : za_) (j) (bot) {Q : ByteArray × AHeap → Prop} (s : St) {h0 : AHeap}
  (hj : ∀ h t, zb_ h0 h → Acc encB 5 h0.next h t (zzh_ s) → Wp (j t h) Q) :
  ∀ (d i : Nat) (t : Slc) (h : AHeap), i + d = 8 → zb_ h0 h → Acc encB 5 h0.next h t (((wl s).take i).map zib_).flatten →
   Wp (zh_ bot (d + 1) (zzd_ k0 D j) t ((s.a.toNat : Int), (s.b.toNat : Int), (s.c.toNat : Int), (s.d.toNat : Int), (s.e.toNat : Int), (s.f.toNat : Int), (s.g.toNat : Int), (s.h.toNat : Int)) (i : Int) h) Q := fun d => by
 induction d with
 | zero =>
  intro i t h hi kp A
  rw [ze_]; simp only [zzd_]
  obtain rfl : i = 8 := by omega
  refine Wp.ifn (by simp) (hj h t kp ?_)
  rw [zSx_]; exact A
 | succ d ih =>
  intro i t h hi kp A
  rw [ze_]; simp only [zzd_]
  refine Wp.ifp (by simp; omega) ?_
  refine Wp.ifp (by omega) ?_
  obtain ⟨x, hx⟩ := zy_ (l := wl s) (i := i) (by rw [zG_]; omega)
  have hlx : ((wl s).map encU)[((i : Int)).toNat * 1]? = some (.int .u32 (x.toNat : Int)) := by
   rw [Int.toNat_natCast, Nat.mul_one, List.getElem?_map, hx]; rfl
  refine Wp.bnd hlx (Wp.bnd rfl ?_)
  rw [zVD_]
  have k1 : zb_ h (h.new (.cells ((zib_ x).map encB) 5 true 0)) := zb_.new h _
  have hr := zxf_ (h := h.new (.cells ((zib_ x).map encB) 5 true 0)) (b := h.next) (c := (zib_ x).map encB) (e := 5) (r := true) (fz := 0) (by simp)
  have hr' : Gx.rdS 1 (⟨some ⟨h.next, 0, some 0⟩, 4, 4⟩ : Slc) (h.new (.cells ((zib_ x).map encB) 5 true 0)) = some ((zib_ x).map encB) := hr
  refine Wp.bnd hr' ?_
  have hlen : (((wl s).take i).map zib_).flatten.length = 4 * i := by
   have : ∀ l : List UInt32, (l.map zib_).flatten.length = 4 * l.length := fun l => by
    induction l with
    | nil => rfl
    | cons y l ih => rw [List.map_cons, List.flatten_cons, List.length_append, ih]; simp [zib_]; omega
   rw [this, List.length_take, zG_]; omega
  obtain ⟨t', h', e1, A', c1, _⟩ := (A.keeps k1).app (bytes := 1) (fun _ => rfl) (zib_ x) (by rw [hlen]; simp [zib_]; omega) (by omega) (Nat.le_trans kp.nx k1.nx)
  refine Wp.bnd e1 ?_
  rw [Gx.w1 (by omega)]
  refine ih (i + 1) t' h' (by omega) ?_ ?_
  ·exact Chg.beh (kp.trans k1) c1 fun y hy ⟨a, ha, e⟩ => by have := (A.lt a ha).2; omega
  ·rw [List.take_add_one, hx]
   simpa using A'
theorem zSC_ {k0 : Nat} (hk : 200 ≤ k0) (D : za_) {n0 : Nat} {h : AHeap} {hb : Nat} {s : St} {rest : List UInt8} {long : Nat} (H : Hash n0 h hb s rest long) (hrl : rest.length < 64) (hlong : long ≤ 90000000) (kg : KG 0 h) :
  Wp (zMf_ k0 D (some ⟨hb, 0, none⟩) h) fun q => q.1 = ⟨⟨zzh_ (zhb_ s (rest ++ (128 :: List.replicate (zH_ rest.length) 0 ++ be64 (long * 8))))⟩⟩ ∧ zb_ h q.2 := by
 simp only [zMf_]
 obtain ⟨h1, eb, e1, k1, F1, H1⟩ := zRD_ k0 D H (by omega)
 refine Wp.bnd e1 ?_
 let h2 := h1.new (.cells [.int .u8 128] 5 true 0)
 have k2 : zb_ h1 h2 := zb_.new h1 _
 have F2 := F1.keeps k2
 have L2 : Lst encB 5 h1.next h2 (⟨some ⟨h1.next, 0, some 0⟩, 1, 1⟩ : Slc) [128] := ⟨by simp, h1.next, some 0, rfl, by simp [h2, outB, encB], Nat.le_refl _, by simp [h2], .inl rfl⟩
 refine Wp.jn fun j2 hj2 => ?_
 unfold zLk_
 have hz : zH_ rest.length < 64 := Nat.mod_lt _ (by decide)
 obtain ⟨bot2, b2⟩ := zp_ (fun _ _ _ _ => none) (zid_ k0 D j2) (show zH_ rest.length + 1 ≤ k0 by omega)
 rw [b2]
 refine zkH_ (k0 := k0) D j2 bot2 (n0 := h.next) (long := long) hrl (h0 := h1) ?_ F1 (zH_ rest.length) 0 _ h2 (by omega) k2 L2
 intro h3 t3 k3 L3
 subst hj2
 dsimp only
 obtain ⟨r, HS3, _, _⟩ := (H1.keeps k3).ok
 refine Wp.bnd rfl (Wp.bnd (zqb_ HS3.blk (ztl_ (zG_ s))) ?_)
 refine Wp.jn fun j1 hj1 => ?_
 unfold zal_
 obtain ⟨bot1, b1⟩ := zp_ (fun _ _ _ _ _ => none) (zqd_ k0 D j1) (show 8 + 1 ≤ k0 by omega)
 rw [b1]
 have ec : IntKind.wrap .u64 (IntKind.wrap .u64 (long : Int) * 8) = ((long * 8 : Nat) : Int) := by
  rw [zqx_ (long : Int) (by omega) (by omega), zqx_ _ (by omega) (by omega)]; omega
 rw [ec]
 have hbase : (128 :: List.replicate (zH_ rest.length) (0 : UInt8)).length ≤ 1000 := by simp; omega
 have L3' : Lst encB 5 h1.next h3 t3 (128 :: List.replicate (zH_ rest.length) 0 ++ (be64 (long * 8)).take 0) := by simpa using L3
 have step := zKH_ (k0 := k0) D j1 bot1 (Q := fun q => q.1 = ⟨⟨zzh_ (zhb_ s (rest ++ (128 :: List.replicate (zH_ rest.length) 0 ++ be64 (long * 8))))⟩⟩ ∧ zb_ h q.2) (e := some ⟨eb, 0, none⟩) (base := 128 :: List.replicate (zH_ rest.length) 0) hbase (long * 8) (h0 := h1) ?_ 8 0 t3 h3 (by omega) k3 L3'
 ·exact step
 intro h4 t4 k4 L4
 subst hj1
 dsimp only
 obtain ⟨tb, sp, rfl, g4, _, _, _⟩ := L4.st
 have bo := zcd_ (h := h4) (b := tb) (sp := sp) (cap := (128 :: List.replicate (zH_ rest.length) 0 ++ be64 (long * 8)).length) (l := 128 :: List.replicate (zH_ rest.length) 0 ++ be64 (long * 8)) (e := 5) (r := true) (fz := 0) g4
 refine Wp.bnd bo ?_
 have F4 := F1.keeps k4
 have tl : (128 :: List.replicate (zH_ rest.length) 0 ++ be64 (long * 8)).length ≤ 100 := by rw [List.length_append, zEl_]; simp; omega
 have tz : (⟨⟨128 :: List.replicate (zH_ rest.length) 0 ++ be64 (long * 8)⟩⟩ : ByteArray).size ≤ 100 := by rw [znc_]; exact tl
 refine Wp.call (zzs_ (k0 := k0) (by omega) D F4 (kg.chg (k1.trans k4) fun f => f) (by have := kg.lt; omega) ⟨⟨128 :: List.replicate (zH_ rest.length) 0 ++ be64 (long * 8)⟩⟩ (by omega) (by omega) (by omega)) fun q ⟨q1, q2⟩ => ?_
 obtain ⟨u5, hh5⟩ := q
 simp only at q1 q2 ⊢
 obtain ⟨r5, HS5, _, _⟩ := q1.ok
 refine Wp.jn fun j0 hj0 => ?_
 have tk : ∀ (u : St) (r : Slc) (l : Int), (zL_ (wl u) r l).take 8 = (wl u).map encU := fun u r l => rfl
 have ld5 := zNv_ (sp := none) HS5.blk (show 0 < 8 by decide) (by rw [zkf_ (zG_ _)]; decide)
 rw [tk] at ld5
 refine Wp.bnd rfl (Wp.bnd ld5 (Wp.bnd rfl ?_))
 unfold zil_
 obtain ⟨bot0, b0⟩ := zp_ (fun _ _ _ _ => none) (zzd_ k0 D j0) (show 8 + 1 ≤ k0 by omega)
 rw [b0]
 have k5 : zb_ h hh5 := Chg.beh (k1.trans k4) q2 fun x hx e => by have e : h.next ≤ x := e; omega
 refine zHH_ (k0 := k0) D j0 bot0 (zhb_ s (rest ++ bl ⟨⟨128 :: List.replicate (zH_ rest.length) 0 ++ be64 (long * 8)⟩⟩)) (h0 := hh5) ?_ 8 0 ⟨none, 0, 0⟩ hh5 (by omega) (Chg.refl _ _) (Acc.nil _ _ _ _)
 intro h6 t6 k6 A6
 subst hj0
 dsimp only
 rcases A6.st with ⟨_, e⟩ | ⟨b, g⟩
 ·simp [zzh_, zib_] at e
 ·have hg := g.s
  subst hg
  have bo := zcd_ (h := h6) (b := b) (sp := some 2) (cap := (zzh_ (zhb_ s (rest ++ bl ⟨⟨128 :: List.replicate (zH_ rest.length) 0 ++ be64 (long * 8)⟩⟩))).length) (l := zzh_ (zhb_ s (rest ++ bl ⟨⟨128 :: List.replicate (zH_ rest.length) 0 ++ be64 (long * 8)⟩⟩))) (e := 5) (r := true) (fz := 0) g.blk
  exact Wp.bnd bo (Wp.of ⟨rfl, k5.trans k6⟩)
end Gz
namespace Gz
open Go Gx Go.Proofs
def catL (xs : List ByteArray) : List UInt8 := (xs.map bl).flatten
theorem zIC_ (n : Nat) : zH_ (n % 64) = zH_ n := by unfold zH_; rw [Nat.mod_mod]
theorem zhD_ {xs : List ByteArray} {i : Nat} {x : ByteArray} (hx : xs[i]? = some x) : catL (xs.take (i + 1)) = catL (xs.take i) ++ bl x := by
 unfold catL
 rw [List.take_add_one, hx]
 simp
theorem zeG_ (xs : List ByteArray) (i : Nat) : (catL (xs.take i)).length ≤ (catL xs).length := by
 have : catL xs = catL (xs.take i) ++ catL (xs.drop i) := by
  unfold catL
  rw [← List.flatten_append, ← List.map_append, List.take_append_drop]
 rw [this, List.length_append]; omega
theorem zLE_ {k0 : Nat} (hk : 200 ≤ k0) (D : za_) {h : AHeap} {y : Slc} {xs : List ByteArray} (kg : KG 0 h) (R : Row encS h y xs) (hx : (catL xs).length ≤ 90000000) (hkx : (catL xs).length < 64 * k0) (hxl : xs.length < k0) (hxl2 : xs.length < 9223372036854775807) :
  Wp (zYl_ k0 D y h) fun q => q.1 = ⟨⟨zns_ (catL xs)⟩⟩ ∧ zb_ h q.2 := by
 simp only [zYl_]
 obtain ⟨h1, hb, e1, k1, hle, H1⟩ := zsD_ k0 D h
 refine Wp.bnd e1 ?_
 refine Wp.jn fun j hj => ?_
 unfold zwt_
 obtain ⟨bot, b⟩ := zp_ (fun _ _ _ _ _ => none) (zwg_ k0 D j) (show xs.length + 1 ≤ k0 by omega)
 rw [b, R.1]
 have H1' : Hash h.next h1 hb st0 [] 0 := H1
 have main : ∀ (Q : ByteArray × AHeap → Prop), (∀ g, Chg (fun x => h.next ≤ x) h1 g → Hash h.next g hb (zhb_ st0 (catL xs)) (zcc_ (catL xs)) (catL xs).length → Wp (j (some ⟨hb, 0, none⟩) g) Q) →
   ∀ (d i : Nat) (g : AHeap), i + d = xs.length → Chg (fun x => h.next ≤ x) h1 g → Hash h.next g hb (zhb_ st0 (catL (xs.take i))) (zcc_ (catL (xs.take i))) (catL (xs.take i)).length →
    Wp (zh_ bot (d + 1) (zwg_ k0 D j) (some ⟨hb, 0, none⟩) y (xs.length : Int) (i : Int) g) Q := fun Q hQ d => by
  induction d with
  | zero =>
   intro i g hi c H
   rw [ze_]; simp only [zwg_]
   obtain rfl : i = xs.length := by omega
   rw [List.take_length] at H
   exact Wp.ifn (by simp) (hQ g c H)
  | succ d ih =>
   intro i g hi c H
   rw [ze_]; simp only [zwg_]
   have kp : zb_ h g := Chg.beh k1 c fun x hx e => by have e : h.next ≤ x := e; omega
   refine Wp.ifp (by simp; omega) ?_
   obtain ⟨x, hxi⟩ := zy_ (l := xs) (i := i) (by omega)
   obtain ⟨q, i1, i2⟩ := (R.keeps kp).ldS hxi
   refine Wp.bnd i1 (Wp.bnd i2 ?_)
   have hc := zhD_ hxi
   have hle' := zeG_ xs (i + 1)
   rw [hc, List.length_append, zv_] at hle'
   have hrl := zKg_ (catL (xs.take i))
   refine Wp.call (zzs_ (k0 := k0) (by omega) D H (kg.chg kp fun f => f) (by have := kg.lt; omega) x (by omega) (by omega) (by omega)) fun q ⟨q1, q2⟩ => ?_
   rw [Gx.w1 (by omega)]
   refine ih (i + 1) q.2 (by omega) (c.trans q2) ?_
   rw [hc, List.length_append, zv_, ← zon_ (bl x) _ st0 (catL (xs.take i)) (Nat.le_refl _), ← zpB_]
   exact q1
 refine main _ ?_ xs.length 0 h1 (by omega) (Chg.refl _ _) ?_
 ·intro g c H
  subst hj
  dsimp only
  have kp : zb_ h g := Chg.beh k1 c fun x hx e => by have e : h.next ≤ x := e; omega
  refine Wp.call (zSC_ hk D H (by rw [zKg_]; omega) (by omega) (kg.chg kp fun f => f)) fun q ⟨q1, q2⟩ => ?_
  refine Wp.of ⟨?_, kp.trans q2⟩
  rw [q1, zKg_, zIC_, zon_ _ _ _ _ (Nat.le_refl _)]
  rfl
 ·have e0 : catL (xs.take 0) = [] := rfl
  rw [e0, zNk_ (by simp), zDv_ (by simp)]
  exact H1'
end Gz
namespace Gz
open Go Gx Go.Proofs
def prs (s : ByteArray) : Sh :=
 (((numL 0 (((bl s).drop 4).take 1) : Nat) : Int), ((numL 0 (((bl s).drop 5).take 1) : Nat) : Int), ((numL 0 (((bl s).drop 6).take 1) : Nat) : Int), ((numL 0 (((bl s).drop 7).take 4) : Nat) : Int), ⟨⟨((bl s).drop 11).take 32⟩⟩, ⟨⟨((bl s).drop 43).take (s.size - 47)⟩⟩)
def okS (s : ByteArray) : Bool := decide (47 ≤ s.size) && (decide (chkA (prs s) = 0) && decide (zhF_ (prs s) = bl s))
end Gz
namespace Gz
open Go Gx Go.Proofs
end Gz
namespace Gz
open Go Gx Go.Proofs
theorem enc_dec {s : ByteArray} (h : okS s = true) : encA (prs s) = (s, 0) := by
 unfold okS at h
 simp only [Bool.and_eq_true, decide_eq_true_eq] at h
 unfold encA
 rw [if_pos h.2.1, h.2.2]; rfl
end Gz
namespace Gz
open Go Gx Go.Proofs
end Gz
namespace Gz
open Go Gx Go.Proofs
end Gz
