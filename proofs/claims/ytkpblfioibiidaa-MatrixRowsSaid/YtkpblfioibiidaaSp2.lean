import Derived.Test.YtkpblfioibiidaaSp1
namespace Gy
open Go Gx Go.Proofs Fe
def ls : List Nat → (Nat → Fe) → Fe
  | [], _ => 0
  | y :: l, f => f y + ls l f
theorem ls_congr : ∀ {l : List Nat} {f g : Nat → Fe}, (∀ y ∈ l, f y = g y) → ls l f = ls l g
  | [], _, _, _ => rfl
  | y :: l, f, g, h => by
    show f y + ls l f = g y + ls l g
    rw [h y (by simp), ls_congr fun z hz => h z (by simp [hz])]
theorem ls_zero : ∀ {l : List Nat} {f : Nat → Fe}, (∀ y ∈ l, f y = 0) → ls l f = 0
  | [], _, _ => rfl
  | y :: l, f, h => by
    show f y + ls l f = 0
    rw [h y (by simp), ls_zero fun z hz => h z (by simp [hz]), add_zero]
theorem ls_add : ∀ (l : List Nat) (f g : Nat → Fe), ls l (fun y => f y + g y) = ls l f + ls l g
  | [], _, _ => (add_zero 0).symm
  | y :: l, f, g => by
    show f y + g y + ls l (fun y => f y + g y) = f y + ls l f + (g y + ls l g)
    rw [ls_add l f g]
    ac_rfl
theorem ls_mul : ∀ (l : List Nat) (c : Fe) (f : Nat → Fe), ls l (fun y => c * f y) = c * ls l f
  | [], c, _ => (mul_zero c).symm
  | y :: l, c, f => by
    show c * f y + ls l (fun y => c * f y) = c * (f y + ls l f)
    rw [ls_mul l c f, mul_add]
theorem ls_append : ∀ (l m : List Nat) (f : Nat → Fe), ls (l ++ m) f = ls l f + ls m f
  | [], m, f => (zero_add _).symm
  | y :: l, m, f => by
    show f y + ls (l ++ m) f = f y + ls l f + ls m f
    rw [ls_append l m f, add_assoc]
theorem sm_ls (p : Nat → Bool) : ∀ {k : Nat} {f : Nat → Fe}, (∀ j, p j = false → f j = 0) → sm k f = ls ((List.range k).filter p) f
  | 0, _, _ => rfl
  | k + 1, f, h => by
    rw [sm_s, List.range_succ, List.filter_append, ls_append, sm_ls p h]
    congr 1
    by_cases e : p k = true
    · rw [List.filter_cons_of_pos e]
      show f k = f k + 0
      rw [add_zero]
    · rw [List.filter_cons_of_neg e, h k (by simpa using e)]
      rfl
theorem inv_ne {a : Fe} (h : a ≠ 0) : Fe.inv a ≠ 0 := fun e => one_ne (by rw [← inv_mul h, e, zero_mul])
theorem inv_add {a b : Fe} (ha : a ≠ 0) (hb : b ≠ 0) : Fe.inv a + Fe.inv b = (a + b) * (Fe.inv a * Fe.inv b) := by
  rw [add_mul, ← mul_assoc, mul_inv ha, one_mul, mul_comm (Fe.inv a), ← mul_assoc, mul_inv hb, one_mul, add_comm]
theorem add_ne {a b : Fe} (h : a ≠ b) : a + b ≠ 0 := fun e => h (add_eq_zero e)
theorem cauchy_kernel : ∀ (ys xs : List Nat) (f : Nat → Fe), ys.Nodup → xs.Nodup → ys.length ≤ xs.length → (∀ x ∈ xs, ∀ y ∈ ys, of x ≠ of y) → (∀ a ∈ ys, ∀ b ∈ ys, of a = of b → a = b) → (∀ a ∈ xs, ∀ b ∈ xs, of a = of b → a = b) →
    (∀ x ∈ xs, ls ys (fun y => f y * Fe.inv (of x + of y)) = 0) → ∀ y ∈ ys, f y = 0
  | [], _, _, _, _, _, _, _, _, _ => fun y hy => by simp at hy
  | y0 :: ys, [], _, _, _, h, _, _, _, _ => by simp at h
  | y0 :: ys, x0 :: xs, f, ny, nx, hl, hxy, iy, ix, hz => by
    have n0 : of x0 + of y0 ≠ 0 := add_ne (hxy x0 (by simp) y0 (by simp))
    have ny' := List.nodup_cons.1 ny
    have nx' := List.nodup_cons.1 nx
    have key : ∀ x ∈ x0 :: xs, f y0 + ls ys (fun y => f y + f y * ((of y0 + of y) * Fe.inv (of x + of y))) = 0 := fun x hx => by
      have h1 := hz x hx
      have nx0 : of x + of y0 ≠ 0 := add_ne (hxy x hx y0 (by simp))
      have h2 : (of x + of y0) * ls (y0 :: ys) (fun y => f y * Fe.inv (of x + of y)) = 0 := by rw [h1, mul_zero]
      rw [← ls_mul] at h2
      have h3 : ls (y0 :: ys) (fun y => (of x + of y0) * (f y * Fe.inv (of x + of y))) = f y0 + ls ys (fun y => f y + f y * ((of y0 + of y) * Fe.inv (of x + of y))) := by
        show (of x + of y0) * (f y0 * Fe.inv (of x + of y0)) + ls ys _ = _
        congr 1
        · rw [mul_comm (f y0), ← mul_assoc, mul_inv nx0, one_mul]
        · refine ls_congr fun y hy => ?_
          have ne : of x + of y ≠ 0 := add_ne (hxy x hx y (by simp [hy]))
          have e : of x + of y0 = (of x + of y) + (of y0 + of y) := by
            have : (of x + of y) + (of y0 + of y) = of x + of y0 + (of y + of y) := by ac_rfl
            rw [this, add_self, add_zero]
          rw [e, add_mul, mul_comm (f y), ← mul_assoc, mul_inv ne, one_mul]
          congr 1
          ac_rfl
      rw [h3] at h2
      exact h2
    have ih := cauchy_kernel ys xs (fun y => f y * (of y0 + of y) * Fe.inv (of x0 + of y)) ny'.2 nx'.2 (by simp at hl; exact hl) (fun x hx y hy => hxy x (by simp [hx]) y (by simp [hy])) (fun a ha b hb => iy a (by simp [ha]) b (by simp [hb]))
      (fun a ha b hb => ix a (by simp [ha]) b (by simp [hb])) (fun x hx => by
        have k0 := key x0 (by simp)
        have k1 := key x (by simp [hx])
        have nxx : of x + of x0 ≠ 0 := add_ne fun e => nx'.1 (by rw [← ix x (by simp [hx]) x0 (by simp) e]; exact hx)
        refine mul_cancel nxx ?_
        rw [← ls_mul]
        have e1 : ls ys (fun y => (of x + of x0) * (f y * (of y0 + of y) * Fe.inv (of x0 + of y) * Fe.inv (of x + of y))) = ls ys (fun y => f y * ((of y0 + of y) * Fe.inv (of x + of y))) + ls ys (fun y => f y * ((of y0 + of y) * Fe.inv (of x0 + of y))) := by
          rw [← ls_add]
          refine ls_congr fun y hy => ?_
          have na : of x + of y ≠ 0 := add_ne (hxy x (by simp [hx]) y (by simp [hy]))
          have nb : of x0 + of y ≠ 0 := add_ne (hxy x0 (by simp) y (by simp [hy]))
          have s : of x + of x0 = of x + of y + (of x0 + of y) := by
            have : of x + of y + (of x0 + of y) = of x + of x0 + (of y + of y) := by ac_rfl
            rw [this, add_self, add_zero]
          rw [← mul_add, ← mul_add, inv_add na nb, ← s]
          ac_rfl
        rw [e1]
        rw [ls_add] at k0 k1
        have : (f y0 + (ls ys f + ls ys fun y => f y * ((of y0 + of y) * Fe.inv (of x + of y)))) + (f y0 + (ls ys f + ls ys fun y => f y * ((of y0 + of y) * Fe.inv (of x0 + of y)))) = 0 := by
          have q1 : (f y0 + (ls ys f + ls ys fun y => f y * ((of y0 + of y) * Fe.inv (of x + of y)))) = 0 := k1
          have q0 : (f y0 + (ls ys f + ls ys fun y => f y * ((of y0 + of y) * Fe.inv (of x0 + of y)))) = 0 := k0
          rw [q1, q0, add_zero]
        have e2 : (f y0 + (ls ys f + ls ys fun y => f y * ((of y0 + of y) * Fe.inv (of x + of y)))) + (f y0 + (ls ys f + ls ys fun y => f y * ((of y0 + of y) * Fe.inv (of x0 + of y)))) =
            (f y0 + f y0) + (ls ys f + ls ys f) + (ls ys (fun y => f y * ((of y0 + of y) * Fe.inv (of x + of y))) + ls ys (fun y => f y * ((of y0 + of y) * Fe.inv (of x0 + of y)))) := by ac_rfl
        rw [e2, add_self, add_self, add_zero, zero_add] at this
        exact this)
    have hys : ∀ y ∈ ys, f y = 0 := fun y hy => by
      have h1 := ih y hy
      have na : of y0 + of y ≠ 0 := add_ne fun e => ny'.1 (by rw [iy y0 (by simp) y (by simp [hy]) e]; exact hy)
      have nb : Fe.inv (of x0 + of y) ≠ 0 := inv_ne (add_ne (hxy x0 (by simp) y (by simp [hy])))
      have : (of y0 + of y) * Fe.inv (of x0 + of y) * f y = 0 := by
        rw [← h1]; ac_rfl
      exact mul_cancel (mul_ne na nb) this
    intro y hy
    rcases List.mem_cons.1 hy with rfl | hy
    · have h1 := hz x0 (by simp)
      have h2 : f y * Fe.inv (of x0 + of y) + ls ys (fun z => f z * Fe.inv (of x0 + of z)) = 0 := h1
      rw [ls_zero fun z hz => by rw [hys z hz, zero_mul], add_zero, mul_comm] at h2
      exact mul_cancel (inv_ne n0) h2
    · exact hys y hy
theorem nodup_filter {p : Nat → Bool} {l : List Nat} (h : l.Nodup) : (l.filter p).Nodup := List.Pairwise.filter p h
theorem nodup_le : ∀ (k : Nat) (l : List Nat), l.Nodup → (∀ x ∈ l, x < k) → l.length ≤ k
  | 0, l, _, h => by
    cases l with
    | nil => simp
    | cons x l => exact absurd (h x (by simp)) (by omega)
  | k + 1, l, hn, h => by
    have ih := nodup_le k (l.erase k) (hn.erase k) fun x hx => by
      have h1 := (List.Nodup.mem_erase_iff hn).1 hx
      have := h x h1.2
      have := h1.1
      omega
    have := List.length_erase (a := k) (l := l)
    rw [this] at ih
    split at ih <;> omega
def cauN (k t : Nat) : Nat := (cau k t).toNat
theorem cauN_at {i j k : Nat} (hj : j < k) : cauN k (i * k + j) = if i < k then (if i = j then 1 else 0) else divT 1 (i ^^^ j) := by
  unfold cauN
  rw [cau_at hj]
  split
  · split <;> rfl
  · simp
theorem cauN_El {k N : Nat} (hk : 0 < k) : El N (cauN k) := fun t _ => by
  have e : t / k * k + t % k = t := by have := Nat.div_add_mod t k; rw [Nat.mul_comm] at this; exact this
  rw [← e, cauN_at (Nat.mod_lt _ hk)]
  split
  · split <;> omega
  · exact divT_lt
theorem Vw_cau {i j k : Nat} (hi : i < 256) (hj : j < k) (hk : k ≤ 256) : Vw k (cauN k) i j = if i < k then dl i j else Fe.inv (of i + of j) := by
  unfold Vw
  rw [cauN_at hj]
  by_cases e : i < k
  · rw [if_pos e, if_pos e]
    unfold dl
    split
    · exact of_one
    · exact of_zero
  · rw [if_neg e, if_neg e, ← of_xor hi (by omega)]
    refine Fe.ext ?_
    rw [of_v divT_lt]
    show _ = divT 1 (of (i ^^^ j)).v
    rw [of_v (xor_lt hi (by omega))]
theorem any_rows {k n : Nat} (hk : 0 < k) (hn : n ≤ 255) {ws : List Nat} (hl : ws.length = k) (hnd : ws.Nodup) (hlt : ∀ x ∈ ws, x < n) (w : Nat → Nat) (hw : ∀ i, i < k → ws[i]? = some (w i)) (hkn : k ≤ n) :
    rk k k (pickF k (cauN k) w) = k := by
  have hwn : ∀ i, i < k → w i < n := fun i hi => hlt _ (mem_of (hw i hi))
  have hE : El (k * k) (pickF k (cauN k) w) := fun t ht => by
    unfold pickF
    exact cauN_El hk (N := n * k) _ (pos_lt (hwn _ ((Nat.div_lt_iff_lt_mul hk).2 ht)) (Nat.mod_lt _ hk))
  have hT := turn_El hk hE
  have hrt := rk_tr hk hk hE hT Vw_turn
  have hle : rk k k (pickF k (cauN k) w) ≤ k := rk_le
  refine Classical.byContradiction fun hne => ?_
  obtain ⟨v, ⟨j0, hj0, hv0⟩, hz⟩ := kernel hk hT (by omega : rk k k (turnF k k (pickF k (cauN k) w)) < k)
  have eqn : ∀ i, i < k → sm k (fun j => v j * Vw k (cauN k) (w i) j) = 0 := fun i hi => by
    rw [← hz i hi]
    refine sm_congr fun j hj => ?_
    rw [Vw_turn j i hj hi]
    show _ = v j * of (pickF k (cauN k) w (i * k + j))
    rw [pickF_at hj]
    rfl
  have low : ∀ i, i < k → w i < k → v (w i) = 0 := fun i hi hwi => by
    have := eqn i hi
    rw [sm_congr (g := fun j => v j * dl j (w i)) fun j hj => by rw [Vw_cau (by have := hwn i hi; omega) hj (by omega), if_pos hwi, dl_comm], sm_dl' v hwi] at this
    exact this
  have idx : ∀ x ∈ ws, ∃ i, i < k ∧ w i = x := fun x hx => by
    obtain ⟨i, hi, e⟩ := List.mem_iff_getElem.1 hx
    refine ⟨i, by omega, ?_⟩
    have := hw i (by omega)
    rw [List.getElem?_eq_getElem hi, e] at this
    exact (Option.some.inj this).symm
  obtain ⟨p, hp⟩ : ∃ p : Nat → Bool, ∀ j, p j = true ↔ v j ≠ 0 := ⟨fun j => @decide (v j ≠ 0) (Classical.propDecidable _), fun j => by simp⟩
  have hpz : ∀ j, p j = false → v j = 0 := fun j hj => Classical.byContradiction fun e => by
    have := (hp j).2 e
    rw [hj] at this
    cases this
  have ysmem : ∀ y ∈ (List.range k).filter p, y < k ∧ v y ≠ 0 := fun y hy => by
    have := List.mem_filter.1 hy
    exact ⟨List.mem_range.1 this.1, (hp y).1 this.2⟩
  have hcount : ((List.range k).filter p).length ≤ (ws.filter fun x => !decide (x < k)).length := by
    have h1 : ((List.range k).filter p ++ ws.filter fun x => decide (x < k)).length ≤ k := by
      refine nodup_le k _ ?_ fun x hx => ?_
      · refine List.nodup_append.2 ⟨nodup_filter List.nodup_range, nodup_filter hnd, fun a ha b hb e => ?_⟩
        subst e
        have h2 := ysmem a ha
        have h3 := List.mem_filter.1 hb
        obtain ⟨i, hi, hwi⟩ := idx a h3.1
        exact h2.2 (by rw [← hwi]; exact low i hi (by rw [hwi]; exact h2.1))
      · rcases List.mem_append.1 hx with hx | hx
        · exact (ysmem x hx).1
        · have := (List.mem_filter.1 hx).2
          simpa using this
    have h2 : ∀ l : List Nat, (l.filter fun x => decide (x < k)).length + (l.filter fun x => !decide (x < k)).length = l.length := by
      intro l
      induction l with
      | nil => rfl
      | cons x l ih =>
        by_cases c : x < k
        · rw [List.filter_cons_of_pos (by simpa using c), List.filter_cons_of_neg (by simpa using c), List.length_cons, List.length_cons]; omega
        · rw [List.filter_cons_of_neg (by simpa using c), List.filter_cons_of_pos (by simpa using c), List.length_cons, List.length_cons]; omega
    rw [List.length_append] at h1
    have := h2 ws
    omega
  have oinj : ∀ a b, a < 256 → b < 256 → of a = of b → a = b := fun a b ha hb h => of_inj ha hb h
  have all := cauchy_kernel ((List.range k).filter p) (ws.filter fun x => !decide (x < k)) v (nodup_filter List.nodup_range) (nodup_filter hnd) hcount
    (fun x hx y hy e => by
      have h1 := List.mem_filter.1 hx
      have h2 := (ysmem y hy).1
      have h3 := hlt x h1.1
      have := oinj x y (by omega) (by omega) e
      have h4 := h1.2
      simp at h4
      omega)
    (fun a ha b hb e => oinj a b (by have := (ysmem a ha).1; omega) (by have := (ysmem b hb).1; omega) e)
    (fun a ha b hb e => oinj a b (by have := hlt a (List.mem_filter.1 ha).1; omega) (by have := hlt b (List.mem_filter.1 hb).1; omega) e)
    (fun x hx => by
      have h1 := List.mem_filter.1 hx
      obtain ⟨i, hi, hwi⟩ := idx x h1.1
      have h4 := h1.2
      simp at h4
      have := eqn i hi
      rw [sm_congr (g := fun j => v j * Fe.inv (of x + of j)) fun j hj => by rw [Vw_cau (by have := hwn i hi; omega) hj (by omega), if_neg (by omega), hwi]] at this
      rw [← sm_ls p fun j hj => by rw [hpz j hj, zero_mul]]
      exact this)
  exact hv0 (all j0 (List.mem_filter.2 ⟨List.mem_range.2 hj0, (hp j0).2 hv0⟩))
end Gy
namespace Gy
open Go Gx Go.Proofs
structure Gl (base : Nat) (h : AHeap) (s : Slc) (xs : List Int) : Prop where
  st : ((s = nilS ∨ ∃ b0, s = ⟨some ⟨b0, 0, some 0⟩, 0, 0⟩) ∧ xs = []) ∨ ∃ b, Grown encI 3 h b s xs
  lt : ∀ a, s.a = some a → a.block < h.next ∧ base ≤ a.block
theorem Gl.nil (base : Nat) (h : AHeap) : Gl base h nilS [] := ⟨.inl ⟨.inl rfl, rfl⟩, fun a ha => by cases ha⟩
theorem Gl.zero {base b0 : Nat} {h : AHeap} (h1 : b0 < h.next) (h2 : base ≤ b0) : Gl base h ⟨some ⟨b0, 0, some 0⟩, 0, 0⟩ [] := ⟨.inl ⟨.inr ⟨b0, rfl⟩, rfl⟩, fun a ha => by cases ha; exact ⟨h1, h2⟩⟩
theorem Gl.row {base : Nat} {h : AHeap} {s : Slc} {xs : List Int} (G : Gl base h s xs) : Row encI h s xs := by
  rcases G.st with ⟨h1, rfl⟩ | ⟨b, g⟩
  · rcases h1 with rfl | ⟨b0, rfl⟩
    · exact Row.nil _ _ _ _
    · exact Row.nil _ _ _ _
  · exact g.row (G.lt ⟨b, 0, some 2⟩ (by rw [g.s])).1
theorem Gl.chg {base : Nat} {S : Nat → Prop} {h h' : AHeap} {s : Slc} {xs : List Int} (G : Gl base h s xs) (c : Chg S h h') (hs : ∀ a, s.a = some a → ¬ S a.block) : Gl base h' s xs := by
  refine ⟨G.st.imp id ?_, fun a ha => ⟨Nat.lt_of_lt_of_le (G.lt a ha).1 c.nx, (G.lt a ha).2⟩⟩
  rintro ⟨b, g⟩
  exact ⟨b, g.chg (G.lt ⟨b, 0, some 2⟩ (by rw [g.s])).1 c (hs ⟨b, 0, some 2⟩ (by rw [g.s]))⟩
theorem Gl.keeps {base : Nat} {h h' : AHeap} {s : Slc} {xs : List Int} (G : Gl base h s xs) (c : Keeps h h') : Gl base h' s xs := G.chg c fun _ _ f => f
theorem Gl.inM {base : Nat} {h : AHeap} {s : Slc} {xs : List Int} (G : Gl base h s xs) : InM h s xs := by
  refine ⟨G.row, fun hx => ?_⟩
  rcases G.st with ⟨_, e⟩ | ⟨b, g⟩
  · exact absurd e hx
  · exact ⟨b, some 2, g.s, rfl, g.blk, (G.lt ⟨b, 0, some 2⟩ (by rw [g.s])).1⟩
theorem copy_nil' {h : AHeap} {xs : List Int} (hx : xs.length ≠ 0) (hs : 16 * xs.length ≤ 281474976710656) : appendA 1 8 3 h (⟨none, 0, 0⟩ : Slc) (xs.map encI) xs.length = some (whole h.next xs.length (some 2), h.new (outB encI 3 xs)) := by
  unfold appendA
  rw [if_neg (show ¬ (0 + xs.length ≤ 0) by omega), if_pos (show 2 * (0 + xs.length) * 8 ≤ 281474976710656 ∧ 1 ≤ 8 by omega)]
  rfl
theorem Gl.append {base : Nat} {h : AHeap} {s : Slc} {xs ys : List Int} (G : Gl base h s xs) (hs : 16 * (xs.length + ys.length) ≤ 281474976710656) (hb : base ≤ h.next) :
    ∃ s' h', appendA 1 8 3 h s (ys.map encI) ys.length = some (s', h') ∧ Gl base h' s' (xs ++ ys) ∧ Chg (ofS s) h h' ∧ ∀ a, s'.a = some a → h.next ≤ a.block ∨ ofS s a.block := by
  have nx : ∀ a : Addr, a.block < h.next → a.block < (h.new (outB encI 3 ys)).next := fun a ha => by simp; omega
  rcases G.st with ⟨h1, rfl⟩ | ⟨b, g⟩
  · by_cases e : ys = []
    · subst e
      rcases h1 with rfl | ⟨b0, rfl⟩
      · exact ⟨nilS, h, rfl, G, .refl _ _, fun a ha => by cases ha⟩
      · exact ⟨_, h, append_none (enc := encI), G, .refl _ _, fun a ha => .inr ⟨a, ha, rfl⟩⟩
    · have l0 : ys.length ≠ 0 := fun h => e (List.length_eq_zero_iff.1 h)
      have gr := Grown.of (enc := encI) (e := 3) (h := h) (xs := ys) e
      rcases h1 with rfl | ⟨b0, rfl⟩
      · exact ⟨_, _, copy_nil' l0 (by simp at hs; omega), ⟨.inr ⟨_, gr⟩, fun a ha => by cases ha; simp; omega⟩, Chg.new _ _, fun a ha => by cases ha; simp⟩
      · exact ⟨_, _, append_fresh (enc := encI) l0 (by simp at hs; omega) (by omega), ⟨.inr ⟨_, gr⟩, fun a ha => by cases ha; simp; omega⟩, Chg.new _ _, fun a ha => by cases ha; simp⟩
  · have hlt := G.lt ⟨b, 0, some 2⟩ (by rw [g.s])
    by_cases e : ys = []
    · subst e
      refine ⟨s, h, ?_, by rw [List.append_nil]; exact G, .refl _ _, fun a ha => .inr ⟨a, ha, rfl⟩⟩
      rw [g.s]
      simp [appendA]
    · have ap := g.append (bytes := 8) (ys := ys) (fun _ => rfl) e (by omega) (by omega)
      refine ⟨_, _, ap, ⟨.inr ⟨_, rfl, by simp, fun e' => e (List.append_eq_nil_iff.1 e').2⟩, fun a ha => by cases ha; simp; omega⟩, Chg.kill_new (.inr ⟨⟨b, 0, some 2⟩, by rw [g.s], rfl⟩), fun a ha => by cases ha; simp⟩
structure GA (H0 : AHeap) (base ob : Nat) (r c : Int) (xs : List Int) (h : AHeap) (s : Slc) : Prop where
  ch : Chg (fun x => base ≤ x) H0 h
  co : h.get ob = some (.cells (mcell r c s) 51 true 0)
  lo : ob < h.next
  bo : base ≤ ob
  gl : Gl base h s xs
  no : ∀ a, s.a = some a → a.block ≠ ob
theorem GA.push {H0 : AHeap} {base ob : Nat} {r c : Int} {xs : List Int} {h : AHeap} {s : Slc} (G : GA H0 base ob r c xs h s) (x : Int) (hs : xs.length ≤ 1000000) :
    ∃ g s' h1 h2, g = h.new (.cells [.int .i64 x] 3 true 0) ∧ Gx.rdS 1 (⟨some ⟨h.next, 0, some 0⟩, 1, 1⟩ : Slc) g = some [.int .i64 x] ∧ appendA 1 8 3 g s [.int .i64 x] 1 = some (s', h1) ∧ st1 ⟨ob, 2, none⟩ (.slice s'.a s'.len s'.cap) h1 = some h2 ∧
      g.get ob = some (.cells (mcell r c s) 51 true 0) ∧ GA H0 base ob r c (xs ++ [x]) h2 s' := by
  have k1 : Keeps h (h.new (.cells [.int .i64 x] 3 true 0)) := Keeps.new h _
  have lo := G.lo
  have bo := G.bo
  have cg : (h.new (.cells [.int .i64 x] 3 true 0)).get ob = some (.cells (mcell r c s) 51 true 0) := by rw [k1.oth _ lo (fun f => f)]; exact G.co
  obtain ⟨s', h1, ap, G1, c1, n1⟩ := (G.gl.keeps k1).append (ys := [x]) (by simp; omega) (by simp; omega)
  have no' : ∀ a, s'.a = some a → a.block ≠ ob := fun a ha => by
    rcases n1 a ha with q | ⟨b, hb, e⟩
    · simp at q; omega
    · rw [e]; exact G.no b hb
  have co1 : h1.get ob = some (.cells (mcell r c s) 51 true 0) := by rw [c1.oth _ (by simp; omega) (fun ⟨a, ha, e⟩ => G.no a ha e.symm)]; exact cg
  have cset : Chg (· = ob) h1 (h1.set ob (.cells (mcell r c s') 51 true 0)) := Chg.set (.inr rfl)
  have l1 : ob < h1.next := by have := c1.nx; simp at this; omega
  refine ⟨_, s', h1, _, rfl, rdS_one, ap, stS2 co1, cg, ⟨?_, by simp, l1, bo, G1.chg cset no', no'⟩⟩
  refine ((G.ch.trans (Chg.keeps k1)).trans (c1.wk fun x hx => ?_)).trans (cset.wk fun x _ e => ?_)
  · rintro ⟨a, ha, rfl⟩; exact (G.gl.lt a ha).2
  · have e : x = ob := e
    rw [e]; exact bo
def amN (n : Nat) (x : Int) : Nat := (Int.tmod (Int.tmod x n + n) n).toNat
theorem amN_lt {n : Nat} (hn : 0 < n) (hn2 : n < 1000000) (x : Int) : amN n x < n := by
  unfold amN
  have h2 : -(n : Int) < Int.tmod x n := by
    have := Int.lt_tmod_of_pos x (show (0 : Int) < n by omega)
    omega
  rw [Int.tmod_eq_emod_of_nonneg (by omega)]
  have := Int.emod_lt_of_pos (Int.tmod x n + n) (show (0 : Int) < n by omega)
  have := Int.emod_nonneg (Int.tmod x n + n) (show (n : Int) ≠ 0 by omega)
  omega
theorem among_eq {n : Nat} (hn : 0 < n) (hn2 : n < 1000000) (k : Nat) (D : CallF) (x : Int) (h : AHeap) : book_Among k D x (n : Int) h = some ((amN n x : Int), h) := by
  have h1 := Int.tmod_lt_of_pos x (show (0 : Int) < n by omega)
  have h2 : -(n : Int) < Int.tmod x n := by
    have := Int.lt_tmod_of_pos x (show (0 : Int) < n by omega)
    omega
  simp only [book_Among]
  rw [if_neg (by omega), if_neg (by omega), w64 _ (by omega)]
  have : 0 ≤ Int.tmod (Int.tmod x n + n) n := by
    rw [Int.tmod_eq_emod_of_nonneg (by omega)]; exact Int.emod_nonneg _ (by omega)
  unfold amN
  rw [Int.toNat_of_nonneg this]
theorem alike_spec {k0 : Nat} (D : CallF) {h : AHeap} {r c : Int} {s t : Slc} {xs : List Int} (Rs : Row encI h s xs) (Rt : Row encI h t xs) (hk : xs.length < k0) (hl : xs.length < 9223372036854775807) :
    ∃ h', law04_alike k0 D (r, c, s) (r, c, t) h = some (true, h') ∧ Keeps h h' := by
  obtain ⟨g1, hg1⟩ : ∃ g1, g1 = h.new (.cells [.int .i64 r, .int .i64 c, .slice s.a s.len s.cap] 51 true 0) := ⟨_, rfl⟩
  obtain ⟨g2, hg2⟩ : ∃ g2, g2 = g1.new (.cells [.int .i64 r, .int .i64 c, .slice t.a t.len t.cap] 51 true 0) := ⟨_, rfl⟩
  have k1 : Keeps h g1 := hg1 ▸ Keeps.new h _
  have k2 : Keeps g1 g2 := hg2 ▸ Keeps.new g1 _
  have n1 : g1.next = h.next + 1 := by rw [hg1]; rfl
  have b1 : g2.get h.next = some (.cells (mcell r c s) 51 true 0) := by rw [k2.oth _ (by omega) (fun f => f), hg1]; simp [mcell]
  have b2 : g2.get g1.next = some (.cells (mcell r c t) 51 true 0) := by rw [hg2]; simp [mcell]
  have k12 := k1.trans k2
  refine ⟨g2, ?_, k12⟩
  unfold law04_alike
  dsimp only
  rw [← hg1, ← hg2]
  with_reducible repeat' first | refine sbn ?_ | refine bnd (ldM3 (by assumption)) ?_ | refine bnd (decM3 _ _ _) ?_ | refine bnd (ldI0 (by assumption)) ?_ | refine bnd (ldI1 (by assumption)) ?_ | refine bnd (ldL2 (by assumption)) ?_ | refine jn ?_ | refine gp1 ?_ ?_ | refine gp2 ?_ ?_ ?_ | refine gp3 ?_ ?_ ?_ ?_ | refine bnd (ldZ0 (by assumption)) ?_ | refine bnd (ldZ1 (by assumption)) ?_ | refine bnd (ldZ2 (by assumption)) ?_ | rfl
  refine ifp (by simp) ?_
  with_reducible repeat' first | refine sbn ?_ | refine bnd (ldM3 (by assumption)) ?_ | refine bnd (decM3 _ _ _) ?_ | refine bnd (ldI0 (by assumption)) ?_ | refine bnd (ldI1 (by assumption)) ?_ | refine bnd (ldL2 (by assumption)) ?_ | refine jn ?_ | refine gp1 ?_ ?_ | refine gp2 ?_ ?_ ?_ | refine gp3 ?_ ?_ ?_ ?_ | refine bnd (ldZ0 (by assumption)) ?_ | refine bnd (ldZ1 (by assumption)) ?_ | refine bnd (ldZ2 (by assumption)) ?_ | rfl
  refine ifp (by simp) ?_
  with_reducible repeat' first | refine sbn ?_ | refine bnd (ldM3 (by assumption)) ?_ | refine bnd (decM3 _ _ _) ?_ | refine bnd (ldI0 (by assumption)) ?_ | refine bnd (ldI1 (by assumption)) ?_ | refine bnd (ldL2 (by assumption)) ?_ | refine jn ?_ | refine gp1 ?_ ?_ | refine gp2 ?_ ?_ ?_ | refine gp3 ?_ ?_ ?_ ?_ | refine bnd (ldZ0 (by assumption)) ?_ | refine bnd (ldZ1 (by assumption)) ?_ | refine bnd (ldZ2 (by assumption)) ?_ | rfl
  exact bnd (sameI_spec (k := k0) D (Rs.keeps k12) (Rt.keeps k12) hk hl) rfl
end Gy
namespace Gy
open Go Gx Go.Proofs Fe
theorem chk_mat {R C : Nat} {g : Nat → Nat} (h1 : 1 ≤ R) (h2 : R ≤ 255) (h3 : 1 ≤ C) (h4 : C ≤ 255) (hg : El (R * C) g) : chk R C (matN (R * C) g) = 0 := by
  unfold chk
  rw [if_neg (by omega), if_neg, if_pos]
  · rw [List.all_eq_true]
    intro x hx
    obtain ⟨t, ht, e⟩ := List.mem_iff_getElem.1 hx
    have hl : (matN (R * C) g).length = R * C := mat_length _ _
    have e2 : (matN (R * C) g)[t]? = some x := by rw [List.getElem?_eq_getElem ht, e]
    unfold matN at e2
    rw [mat_get (by omega)] at e2
    cases e2
    have := hg t (by omega)
    simp [elemB]
    omega
  · rw [show (matN (R * C) g).length = R * C from mat_length _ _]
    simp
theorem matN_ext {N : Nat} {f g : Nat → Nat} (h : ∀ t, t < N → f t = g t) : matN N f = matN N g := mat_congr fun t ht => by rw [h t ht]
theorem mulP_ok {R C C2 : Nat} {a b : Nat → Nat} (h1 : 1 ≤ R) (h2 : R ≤ 255) (h3 : 1 ≤ C) (h4 : C ≤ 255) (h5 : 1 ≤ C2) (h6 : C2 ≤ 255) (ha : El (R * C) a) (hb : El (C * C2) b) :
    mulP R C (matN (R * C) a) C C2 (matN (C * C2) b) = (((R : Int), (C2 : Int), matN (R * C2) (mulG C C2 a b)), 0) := by
  unfold mulP
  rw [if_neg (fun h => h (chk_mat h1 h2 h3 h4 ha)), if_neg (fun h => h (chk_mat h3 h4 h5 h6 hb)), if_neg (fun h => h rfl)]
  simp only [Int.toNat_natCast]
  rw [matN_ext fun t ht => ?_]
  have hd := (Nat.div_lt_iff_lt_mul h5).2 ht
  have hm := Nat.mod_lt t h5
  unfold mulG
  exact dotN_congr hd hm (fun t ht => natOf_mat ht) (fun t ht => natOf_mat ht) C (Nat.le_refl _)
def invU (n : Nat) (a : Nat → Nat) : Nat → Nat := (stepsN n n n n 0 0 a (oneN n)).2.2
theorem invP_ok {n : Nat} {a : Nat → Nat} (h1 : 1 ≤ n) (h2 : n ≤ 255) (ha : El (n * n) a) : invP n n (matN (n * n) a) = if rk n n a = n then (((n : Int), (n : Int), matN (n * n) (invU n a)), 0) else noM 40 := by
  unfold invP
  rw [if_neg (fun h => h (chk_mat h1 h2 h1 h2 ha)), if_neg (fun h => h rfl)]
  simp only [Int.toNat_natCast]
  have sc := steps_congr (R := n) h1 h1 n 0 0 (g := natOf (matN (n * n) a)) (g' := a) (u := oneN n) (u' := oneN n) (by omega) (by omega) (fun t ht => natOf_mat ht) (fun _ _ => rfl)
  have e := rk_any (R := n) (C := n) n a (oneN n)
  rw [sc.1, e]
  have hle : rk n n a ≤ n := rk_le
  by_cases c : rk n n a = n
  · rw [if_neg (by omega), if_pos c]
    unfold invU
    rw [matN_ext fun t ht => sc.2.2 t ht]
  · rw [if_pos (by omega), if_neg c]
theorem rankP_ok {R C : Nat} {a : Nat → Nat} (h1 : 1 ≤ R) (h2 : R ≤ 255) (h3 : 1 ≤ C) (h4 : C ≤ 255) (ha : El (R * C) a) : rankP R C (matN (R * C) a) = ((rk R C a : Int), 0) := by
  unfold rankP
  rw [if_neg (fun h => h (chk_mat h1 h2 h3 h4 ha))]
  simp only [Int.toNat_natCast]
  have sc := steps_congr (R := R) (C2 := 1) h3 (by omega) C 0 0 (g := natOf (matN (R * C) a)) (g' := a) (u := fun _ => 0) (u' := fun _ => 0) (by omega) (by omega) (fun t ht => natOf_mat ht) (fun _ _ => rfl)
  rw [sc.1]
  rfl
theorem invU_El {n : Nat} {a : Nat → Nat} (hn : 0 < n) (ha : El (n * n) a) : El (n * n) (invU n a) := by
  obtain ⟨T, T', p, j, _, _, _, _, h4, _⟩ := gaussN (C := n) hn n 0 0 a (oneN n) (fun k => k) (by omega) ha (oneN_El n) ⟨by omega, by omega, fun k hk => by omega, fun i _ _ c hc => by omega, fun _ k hk => by omega⟩
  exact h4
structure MV (sb fb : Nat) (h : AHeap) (b R C : Nat) (s : Slc) (g : Nat → Nat) : Prop where
  cel : h.get b = some (.cells (mcell R C s) 51 true 0)
  lt : b < h.next
  nf : b ≠ fb
  inm : InM h s (matN (R * C) g)
  ap : ∀ a, s.a = some a → a.block ≠ sb ∧ a.block ≠ fb
  r1 : 1 ≤ R
  r2 : R ≤ 255
  c1 : 1 ≤ C
  c2 : C ≤ 255
  el : El (R * C) g
section
variable {k0 : Nat} {sb fb : Nat} {h h' : AHeap} {b b2 R C C2 n : Nat} {s s2 : Slc} {f g : Nat → Nat}
theorem MV.chg (m : MV sb fb h b R C s g) (c : Chg (· = fb) h h') : MV sb fb h' b R C s g :=
  ⟨by rw [c.oth _ m.lt m.nf]; exact m.cel, Nat.lt_of_lt_of_le m.lt c.nx, m.nf, m.inm.chg c fun a ha => (m.ap a ha).2, m.ap, m.r1, m.r2, m.c1, m.c2, m.el⟩
theorem MV.keeps (m : MV sb fb h b R C s g) (c : Keeps h h') : MV sb fb h' b R C s g := m.chg (Chg.keeps c)
theorem MV.len (m : MV sb fb h b R C s g) : (matN (R * C) g).length ≤ 100000 := by
  rw [show (matN (R * C) g).length = R * C from mat_length _ _]
  exact Nat.le_trans (Nat.mul_le_mul m.r2 m.c2) (by omega)
theorem MV.put {h1 : AHeap} {X : (Int × Int × Slc) × Int} {p : MRes} (S : Spc h sb fb) (O : Out h h1 X p) (c1 : Chg (· = fb) h h1) (S1 : Spc h1 sb fb) (hp : p = (((R : Int), (C : Int), matN (R * C) g), 0)) (r1 : 1 ≤ R) (r2 : R ≤ 255) (q1 : 1 ≤ C) (q2 : C ≤ 255) (el : El (R * C) g) :
    ∃ h2 s', X = (((R : Int), (C : Int), s'), 0) ∧ stL 3 ⟨h1.next, 0, none⟩ (mcell R C s') (h1.new (.cells [.int .i64 0, .int .i64 0, .slice none 0 0] 51 true 0)) = some h2 ∧ MV sb fb h2 h1.next R C s' g ∧ Spc h2 sb fb ∧ Chg (· = fb) h h2 := by
  obtain ⟨⟨r, c, s'⟩, code⟩ := X
  subst hp
  obtain rfl : r = (R : Int) := O.r
  obtain rfl : c = (C : Int) := O.c
  obtain rfl : code = 0 := O.code
  obtain ⟨h2, st2, k2, n2, b2⟩ := mvar (h := h1) (e := 51) (r := (R : Int)) (c := (C : Int)) (s := s')
  have ls := S.ls
  have lf := S.lf
  have nx := c1.nx
  exact ⟨h2, s', rfl, st2, ⟨b2, by omega, by omega, O.inm.keeps k2, fun a ha => by have := O.off a ha; exact ⟨by omega, by omega⟩, r1, r2, q1, q2, el⟩, S1.keeps k2, c1.trans (Chg.keeps k2)⟩
theorem mulV (hk : 200000 ≤ k0) (S : Spc h sb fb) (A : MV sb fb h b R C s f) (B : MV sb fb h b2 C C2 s2 g) :
    ∃ h1 h2 s', matrix_Space_Mul k0 (DD k0) (some ⟨sb, 0, none⟩) (R, C, s) (C, C2, s2) h = some ((((R : Int), (C2 : Int), s'), (0 : Int)), h1) ∧ stL 3 ⟨h1.next, 0, none⟩ (mcell R C2 s') (h1.new (.cells [.int .i64 0, .int .i64 0, .slice none 0 0] 51 true 0)) = some h2 ∧
      MV sb fb h2 h1.next R C2 s' (mulG C C2 f g) ∧ Spc h2 sb fb ∧ Chg (· = fb) h h2 := by
  obtain ⟨h1, X, e, O, S1, c1⟩ := mmul_spec hk S (r := (R : Int)) (c := (C : Int)) (r2 := (C : Int)) (c2 := (C2 : Int)) A.inm B.inm A.len B.len A.ap B.ap
  obtain ⟨h2, s', rfl, st, M, S2, c2⟩ := MV.put S O c1 S1 (mulP_ok A.r1 A.r2 A.c1 A.c2 B.c1 B.c2 A.el B.el) A.r1 A.r2 B.c1 B.c2 (mul_El _ _ _ _ _)
  exact ⟨h1, h2, s', e, st, M, S2, c2⟩
theorem invV (hk : 200000 ≤ k0) (S : Spc h sb fb) (A : MV sb fb h b n n s f) :
    ∃ h1 h2 r c s' code, matrix_Space_Inverse k0 (DD k0) (some ⟨sb, 0, none⟩) (n, n, s) h = some (((r, c, s'), code), h1) ∧ stL 3 ⟨h1.next, 0, none⟩ (mcell r c s') (h1.new (.cells [.int .i64 0, .int .i64 0, .slice none 0 0] 51 true 0)) = some h2 ∧
      (rk n n f = n → r = (n : Int) ∧ c = (n : Int) ∧ code = 0 ∧ MV sb fb h2 h1.next n n s' (invU n f)) ∧ (rk n n f ≠ n → code = 40) ∧ Spc h2 sb fb ∧ Chg (· = fb) h h2 := by
  obtain ⟨h1, X, e, O, S1, c1⟩ := inverse_spec hk S (r := (n : Int)) (c := (n : Int)) A.inm A.len A.ap
  have hp := invP_ok A.r1 A.r2 A.el
  by_cases c : rk n n f = n
  · rw [if_pos c] at hp
    obtain ⟨h2, s', rfl, st, M, S2, c2⟩ := MV.put S O c1 S1 hp A.r1 A.r2 A.r1 A.r2 (invU_El A.r1 A.el)
    exact ⟨h1, h2, _, _, s', 0, e, st, fun _ => ⟨rfl, rfl, rfl, M⟩, fun h => absurd c h, S2, c2⟩
  · rw [if_neg c] at hp
    rw [hp] at O
    obtain ⟨⟨r, q, s'⟩, code⟩ := X
    obtain rfl : code = 40 := O.code
    obtain ⟨h2, st2, k2, n2, b2⟩ := mvar (h := h1) (e := 51) (r := r) (c := q) (s := s')
    exact ⟨h1, h2, r, q, s', 40, e, st2, fun h => absurd h c, fun _ => rfl, S1.keeps k2, c1.trans (Chg.keeps k2)⟩
theorem rankV (hk : 200000 ≤ k0) (S : Spc h sb fb) (A : MV sb fb h b R C s f) :
    ∃ h1, matrix_Space_Rank k0 (DD k0) (some ⟨sb, 0, none⟩) (R, C, s) h = some (((rk R C f : Int), 0), h1) ∧ Spc h1 sb fb ∧ Chg (· = fb) h h1 := by
  have := rank_spec hk S (r := (R : Int)) (c := (C : Int)) A.inm A.len
  rwa [rankP_ok A.r1 A.r2 A.c1 A.c2 A.el] at this
theorem alikeV (hk : 200000 ≤ k0) (D : CallF) (S : Spc h sb fb) (A : MV sb fb h b R C s f) (B : MV sb fb h b2 R C s2 g) (e : ∀ t, t < R * C → f t = g t) :
    ∃ h1, law04_alike k0 D (R, C, s) (R, C, s2) h = some (true, h1) ∧ Spc h1 sb fb ∧ Chg (· = fb) h h1 := by
  have hl := A.len
  have Rb := B.inm.row
  rw [← matN_ext e] at Rb
  obtain ⟨h1, e1, k1⟩ := alike_spec (k0 := k0) D (r := (R : Int)) (c := (C : Int)) A.inm.row Rb (by omega) (by omega)
  exact ⟨h1, e1, S.keeps k1, Chg.keeps k1⟩
end
end Gy
namespace Gy
open Go Gx Go.Proofs Fe
end Gy
namespace Gy
open Go Gx Go.Proofs Fe
theorem sub_take {base : Nat} {h : AHeap} {s : Slc} {xs : List Int} {t : Nat} (G : Gl base h s xs) (ht : t < xs.length) : ∃ s', Gx.subL 1 s none (some (t : Int)) none = some s' ∧ Row encI h s' (xs.take t) := by
  rcases G.st with ⟨_, e⟩ | ⟨b, g⟩
  · rw [e] at ht; simp at ht
  · have hb := G.lt ⟨b, 0, some 2⟩ (by rw [g.s])
    refine ⟨⟨some ⟨b, 0, some 2⟩, t, xs.length⟩, ?_, ?_⟩
    · rw [g.s]
      simp only [subL, Option.getD_none, Option.getD_some]
      rw [if_pos (by omega), if_pos (by rfl), if_neg (by omega)]
      simp
    · have := Row.of_block (enc := encI) (xs := xs.take t) (o := 0) (sp := some 2) (cap := xs.length) g.blk hb.1 fun i x hx => by
        rw [Nat.zero_add, List.getElem?_map]
        rw [List.getElem?_take] at hx
        split at hx
        · rw [hx]; rfl
        · cases hx
      rwa [show (xs.take t).length = t by rw [List.length_take]; omega] at this
theorem sub_drop {base : Nat} {h : AHeap} {s : Slc} {xs : List Int} {t : Nat} (G : Gl base h s xs) (ht : t ≤ xs.length) (hx : xs ≠ []) : ∃ s', Gx.subL 1 s (some (t : Int)) none none = some s' ∧ Row encI h s' (xs.drop t) := by
  rcases G.st with ⟨_, e⟩ | ⟨b, g⟩
  · exact absurd e hx
  · have hb := G.lt ⟨b, 0, some 2⟩ (by rw [g.s])
    have key : Gx.subL 1 s (some (t : Int)) none none = some ⟨some ⟨b, if xs.length = t then 0 else t, some 2⟩, xs.length - t, xs.length - t⟩ := by
      rw [g.s]
      simp only [subL, Option.getD_none, Option.getD_some]
      rw [if_pos (by omega), if_pos (by rfl)]
      by_cases c : xs.length = t
      · rw [if_pos (by omega), if_pos c]; simp
      · rw [if_neg (by omega), if_neg c]; simp
    refine ⟨_, key, ?_⟩
    by_cases c : xs.length = t
    · rw [List.drop_eq_nil_of_le (by omega), show xs.length - t = 0 by omega]
      exact Row.nil _ _ _ _
    · rw [if_neg c]
      have := Row.of_block (enc := encI) (xs := xs.drop t) (o := t) (sp := some 2) (cap := xs.length - t) g.blk hb.1 fun i x hx => by
        rw [List.getElem?_drop] at hx
        rw [List.getElem?_map, hx]; rfl
      rwa [show (xs.drop t).length = xs.length - t by rw [List.length_drop]] at this
def asI (l : List Nat) : List Int := l.map fun n : Nat => (n : Int)
theorem asI_len (l : List Nat) : (asI l).length = l.length := by simp [asI]
theorem asI_get {l : List Nat} {i : Nat} {x : Nat} (h : l[i]? = some x) : (asI l)[i]? = some (x : Int) := by simp [asI, h]
section
variable {k0 : Nat} {H0 : AHeap} {base N K : Nat}
theorem rows_l1 (D : CallF) (hN : N ≤ 1000) (hb : base ≤ H0.next) (kv : Int) (order : Slc) (s a : Option Addr) (rows : Slc) : ∀ (m i : Nat) (h : AHeap) (sl : Slc), i + m = N → Chg (fun x => base ≤ x) H0 h → Gl base h sl (asI (List.range i)) →
    ∃ h' sl', Chg (fun x => base ≤ x) H0 h' ∧ Gl base h' sl' (asI (List.range N)) ∧ ∀ J bot, iterK bot (m + 1) (law04_MatrixRows_l1b k0 D J) kv order s a sl rows (N : Int) (i : Int) h = J kv order s a sl' rows h' := by
  intro m
  induction m with
  | zero =>
    intro i h sl hi ch G
    obtain rfl : i = N := by omega
    refine ⟨h, sl, ch, G, fun J bot => ?_⟩
    rw [iterK_s, law04_MatrixRows_l1b]
    exact ifn (by rw [decide_eq_true_eq]; omega) rfl
  | succ m ih =>
    intro i h sl hi ch G
    have k1 : Keeps h (h.new (.cells [.int .i64 (i : Int)] 3 true 0)) := Keeps.new h _
    have nx := ch.nx
    obtain ⟨sl', h1, ap, G1, c1, _⟩ := (G.keeps k1).append (ys := [(i : Int)]) (by rw [asI_len, List.length_range]; simp; omega) (by simp; omega)
    have e : asI (List.range i) ++ [(i : Int)] = asI (List.range (i + 1)) := by rw [List.range_succ]; simp [asI]
    rw [e] at G1
    obtain ⟨h', s', q1, q2, q3⟩ := ih (i + 1) h1 sl' (by omega) ((ch.trans (Chg.keeps k1)).trans (c1.wk fun x _ ⟨a, ha, e⟩ => by have := G.lt a ha; rw [e]; exact this.2)) G1
    refine ⟨h', s', q1, q2, fun J bot => ?_⟩
    rw [iterK_s, law04_MatrixRows_l1b]
    refine ifp (by rw [decide_eq_true_eq]; omega) ?_
    refine bnd rdS_one (bnd ap ?_)
    rw [w1 (by omega)]
    exact q3 J bot
theorem erase_at {L : List Nat} {t : Nat} {x : Nat} (h : L[t]? = some x) (hn : L.Nodup) : (L.take t ++ L.drop (t + 1)).Nodup ∧ (∀ y, y ∈ L.take t ++ L.drop (t + 1) ↔ y ∈ L ∧ y ≠ x) := by
  have e : L = L.take t ++ x :: L.drop (t + 1) := by rw [← dropc h, List.take_append_drop]
  rw [e] at hn
  have h1 := List.nodup_append.1 hn
  have h2 := List.nodup_cons.1 h1.2.1
  refine ⟨List.nodup_append.2 ⟨h1.1, h2.2, fun a ha b hb => h1.2.2 a ha b (by simp [hb])⟩, fun y => ?_⟩
  constructor
  · intro hy
    refine ⟨?_, fun e2 => ?_⟩
    · rw [e]
      rcases List.mem_append.1 hy with hy | hy
      · exact List.mem_append.2 (.inl hy)
      · exact List.mem_append.2 (.inr (by simp [hy]))
    · subst e2
      rcases List.mem_append.1 hy with hy | hy
      · exact h1.2.2 y hy y (by simp) rfl
      · exact h2.1 hy
  · rintro ⟨hy, hne⟩
    rw [e] at hy
    rcases List.mem_append.1 hy with hy | hy
    · exact List.mem_append.2 (.inl hy)
    · rcases List.mem_cons.1 hy with hy | hy
      · exact absurd hy hne
      · exact List.mem_append.2 (.inr hy)
theorem rows_l0 (D : CallF) (hN : N ≤ 1000) (hK : K ≤ N) (hb : base ≤ H0.next) (kv : Int) {order : Slc} {os : List Int} (Ro : Row encI H0 order os) (hob : ∀ a, order.a = some a → a.block < base) (s a : Option Addr) :
    ∀ (m i : Nat) (h : AHeap) (sl sr : Slc) (L W : List Nat), i + m = K → Chg (fun x => base ≤ x) H0 h → Gl base h sl (asI L) → Gl base h sr (asI W) → ApartS sl sr → L.length + i = N → W.length = i → L.Nodup → W.Nodup → (∀ x ∈ L, x < N) → (∀ x ∈ W, x < N ∧ x ∉ L) →
    ∃ h' sr' W', Chg (fun x => base ≤ x) H0 h' ∧ Gl base h' sr' (asI W') ∧ W'.length = K ∧ W'.Nodup ∧ (∀ x ∈ W', x < N) ∧ ∀ J bot, iterK bot (m + 1) (law04_MatrixRows_l0b k0 D J) kv order s a sl sr (K : Int) (i : Int) h = J kv s a sr' h' := by
  intro m
  induction m with
  | zero =>
    intro i h sl sr L W hi ch GL GW ap hL hW nL nW bL bW
    obtain rfl : i = K := by omega
    refine ⟨h, sr, W, ch, GW, hW, nW, fun x hx => (bW x hx).1, fun J bot => ?_⟩
    rw [iterK_s, law04_MatrixRows_l0b]
    exact ifn (by rw [decide_eq_true_eq]; omega) rfl
  | succ m ih =>
    intro i h sl sr L W hi ch GL GW ap hL hW nL nW bL bW
    have hLp : 0 < L.length := by omega
    have nx := ch.nx
    have Ro1 := Ro.chg ch (fun a ha => by have := hob a ha; omega)
    have tail : ∀ t : Nat, t < L.length → ∃ h' sr' W', Chg (fun x => base ≤ x) H0 h' ∧ Gl base h' sr' (asI W') ∧ W'.length = K ∧ W'.Nodup ∧ (∀ x ∈ W', x < N) ∧ ∀ (J : Int → Option Addr → Option Addr → Slc → AHeap → Option (Bool × AHeap)) bot,
        ((Gx.idxL 1 sl (t : Int)).bind fun q90 => (ldI .i64 q90 h).bind fun x91 =>
        (Gx.rdS 1 (⟨(some ⟨h.next, 0, some 0⟩), 1, 1⟩ : Slc) (AHeap.new h (.cells [.int .i64 x91] 3 true 0))).bind fun n94 =>
        (appendA 1 8 3 (AHeap.new h (.cells [.int .i64 x91] 3 true 0)) sr n94 1).bind fun r93 =>
        (Gx.subL 1 sl none (some (t : Int)) none).bind fun l96 =>
        (Gx.rdS 1 l96 (AHeap.new r93.2 (.cells [] 3 true 0))).bind fun n98 =>
        (appendA 1 8 3 (AHeap.new r93.2 (.cells [] 3 true 0)) (⟨(some ⟨r93.2.next, 0, some 0⟩), 0, 0⟩ : Slc) n98 l96.len).bind fun r97 =>
        (Gx.subL 1 sl (some (IntKind.wrap .i64 ((t : Int) + 1))) none none).bind fun l99 =>
        (Gx.rdS 1 l99 r97.2).bind fun n101 =>
        (appendA 1 8 3 r97.2 r97.1 n101 l99.len).bind fun r100 =>
        iterK bot (m + 1) (law04_MatrixRows_l0b k0 D J) kv order s a r100.1 r93.1 (K : Int) (IntKind.wrap .i64 ((i : Int) + 1)) r100.2) = J kv s a sr' h' := fun t ht => by
      obtain ⟨x, hx⟩ := isome ht
      obtain ⟨q, hq, hld⟩ := GL.row.ldI (asI_get hx)
      have k1 : Keeps h (h.new (.cells [.int .i64 (x : Int)] 3 true 0)) := Keeps.new h _
      obtain ⟨sr', h1, ap1, G1, c1, f1⟩ := (GW.keeps k1).append (ys := [(x : Int)]) (by rw [asI_len]; simp; omega) (by simp; omega)
      have e1 : asI W ++ [(x : Int)] = asI (W ++ [x]) := by simp [asI]
      rw [e1] at G1
      have nx1 := c1.nx
      simp at nx1
      have GL1 : Gl base h1 sl (asI L) := (GL.keeps k1).chg c1 fun a ha ⟨b, hb', e⟩ => ap a b ha hb' e
      obtain ⟨l1, es1, Rt⟩ := sub_take (t := t) GL1 (by rw [asI_len]; exact ht)
      obtain ⟨l2, es2, Rd⟩ := sub_drop (t := t + 1) GL1 (by rw [asI_len]; omega) (fun e => by have := congrArg List.length e; rw [asI_len, List.length_nil] at this; omega)
      have k2 : Keeps h1 (h1.new (.cells [] 3 true 0)) := Keeps.new h1 _
      have rd1 := Row.rdS (Rt.keeps k2)
      have ll1 : ((asI L).take t).length = t := by rw [List.length_take, asI_len]; omega
      have ll2 : ((asI L).drop (t + 1)).length = L.length - (t + 1) := by rw [List.length_drop, asI_len]
      obtain ⟨s3, h3, ap3, G3, c3, f3⟩ := (Gl.zero (base := h1.next) (b0 := h1.next) (h := h1.new (.cells [] 3 true 0)) (by simp) (Nat.le_refl _)).append (ys := (asI L).take t) (by rw [ll1]; simp; omega) (by simp)
      have nx3 := c3.nx
      simp at nx3
      have k13 : Keeps h1 h3 := k2.beh c3 fun x hx ⟨a, ha, e⟩ => by cases ha; have e : x = h1.next := e; omega
      have rd2 := Row.rdS (Rd.keeps k13)
      obtain ⟨s4, h4, ap4, G4, c4, f4⟩ := G3.append (ys := (asI L).drop (t + 1)) (by rw [List.nil_append, ll1, ll2]; omega) (by omega)
      have k14 : Keeps h1 h4 := k13.beh c4 fun x hx ⟨a, ha, e⟩ => by have := G3.lt a ha; omega
      have e4 : [] ++ (asI L).take t ++ (asI L).drop (t + 1) = asI (L.take t ++ L.drop (t + 1)) := by simp [asI, List.map_take, List.map_drop]
      rw [e4] at G4
      obtain ⟨n1, m1⟩ := erase_at hx nL
      have xL := mem_of hx
      have b4 : ∀ a, s4.a = some a → h1.next ≤ a.block ∧ a.block < h4.next := fun a ha => by have := G4.lt a ha; omega
      obtain ⟨h', sr'', W', q1, q2, q3, q4, q5, q6⟩ := ih (i + 1) h4 s4 sr' (L.take t ++ L.drop (t + 1)) (W ++ [x]) (by omega)
        (((ch.trans (Chg.keeps k1)).trans (c1.wk fun y _ ⟨a, ha, e⟩ => by have := GW.lt a ha; rw [e]; exact this.2)).trans (Chg.keeps k14)) ⟨G4.st, fun a ha => by have := G4.lt a ha; omega⟩ (G1.keeps k14)
        (fun a b ha hb' e => by have := b4 a ha; have := G1.lt b hb'; omega) (by rw [List.length_append, List.length_take, List.length_drop]; omega) (by simp; omega) n1
        (List.nodup_append.2 ⟨nW, by simp, fun a ha b hb' e => by simp at hb'; subst hb'; subst e; exact (bW a ha).2 xL⟩)
        (fun y hy => bL y ((m1 y).1 hy).1) (fun y hy => by
          rcases List.mem_append.1 hy with hy | hy
          · exact ⟨(bW y hy).1, fun h => (bW y hy).2 ((m1 y).1 h).1⟩
          · simp at hy; subst hy; exact ⟨bL _ xL, fun h => ((m1 _).1 h).2 rfl⟩)
      refine ⟨h', sr'', W', q1, q2, q3, q4, q5, fun J bot => ?_⟩
      refine bnd hq (bnd hld ?_)
      refine bnd rdS_one (bnd ap1 ?_)
      refine bnd es1 (bnd rd1 ?_)
      rw [Rt.1]
      refine bnd ap3 ?_
      rw [w1 (by omega)]
      refine bnd es2 (bnd rd2 ?_)
      rw [Rd.1]
      refine bnd ap4 ?_
      rw [w1 (by omega)]
      exact q6 J bot
    by_cases co : i < os.length
    · obtain ⟨z, hz⟩ := isome co
      obtain ⟨q, hq, hld⟩ := Ro1.ldI hz
      have ea := among_eq (n := L.length) hLp (by omega) k0 D z h
      have la := amN_lt (n := L.length) hLp (by omega) z
      obtain ⟨h', sr', W', q1, q2, q3, q4, q5, q6⟩ := tail (amN L.length z) la
      refine ⟨h', sr', W', q1, q2, q3, q4, q5, fun J bot => ?_⟩
      rw [iterK_s, law04_MatrixRows_l0b]
      refine ifp (by rw [decide_eq_true_eq]; omega) ?_
      refine jn ?_
      refine ifp (by rw [decide_eq_true_eq, Ro.1]; omega) ?_
      refine bnd hq (bnd hld ?_)
      rw [GL.row.1, asI_len]
      refine bnd ea ?_
      exact q6 J bot
    · obtain ⟨h', sr', W', q1, q2, q3, q4, q5, q6⟩ := tail 0 hLp
      refine ⟨h', sr', W', q1, q2, q3, q4, q5, fun J bot => ?_⟩
      rw [iterK_s, law04_MatrixRows_l0b]
      refine ifp (by rw [decide_eq_true_eq]; omega) ?_
      refine jn ?_
      refine ifn (by rw [decide_eq_true_eq, Ro.1]; omega) ?_
      exact q6 J bot
end
theorem cau_N (k t : Nat) : cau k t = (cauN k t : Int) := by
  unfold cauN
  rw [Int.toNat_of_nonneg]
  unfold cau
  split
  · split <;> omega
  · omega
theorem natOf_asI {W : List Nat} {i : Nat} {x : Nat} (h : W[i]? = some x) : natOf (asI W) i = x := by
  unfold natOf
  rw [asI_get h]; simp
theorem pickP_ok {R C : Nat} {a : Nat → Nat} {rows : List Int} (h1 : 1 ≤ R) (h2 : R ≤ 255) (h3 : 1 ≤ C) (h4 : C ≤ 255) (ha : El (R * C) a) (r1 : 1 ≤ rows.length) (r2 : rows.length ≤ 255) (ok : rows.all (okR R) = true) :
    pickP R C (matN (R * C) a) rows = (((rows.length : Int), (C : Int), matN (rows.length * C) (pickF C a (natOf rows))), 0) := by
  unfold pickP
  rw [if_neg (fun h => h (chk_mat h1 h2 h3 h4 ha)), if_neg (by omega), if_pos (show rows.all (okR (R : Int).toNat) = true from ok)]
  simp only [Int.toNat_natCast]
  rw [matN_ext fun t ht => ?_]
  have hd := (Nat.div_lt_iff_lt_mul h3).2 ht
  have hm := Nat.mod_lt t h3
  unfold pickF
  exact natOf_mat (pos_lt (okR_nat ok hd).2 hm)
set_option maxHeartbeats 2000000 in
theorem rows_true {k0 : Nat} (hk : 200000 ≤ k0) {h : AHeap} (kk mm' : Int) {order : Slc} {os : List Int} (Ro : Row encI h order os) (lo : ∀ a, order.a = some a → a.block < h.next) : ∃ h', law04_MatrixRows k0 (DD k0) kk mm' order h = some (true, h') := by
  obtain ⟨g1, e1, k1, S1, n1⟩ := mnew_spec k0 (DD k0) h
  obtain ⟨g2, e2, k2⟩ := works4_spec (k0 := k0) (by omega) g1
  have nx2 := k2.nx
  have S2 := S1.keeps k2
  have am0 := amN_lt (n := 9) (by omega) (by omega) kk
  have am1 := amN_lt (n := 9) (by omega) (by omega) mm'
  have ea0 := among_eq (n := 9) (by omega) (by omega) k0 (DD k0) kk g2
  have ea1 := among_eq (n := 9) (by omega) (by omega) k0 (DD k0) mm' g2
  obtain ⟨K, hK⟩ : ∃ K, K = 1 + amN 9 kk := ⟨_, rfl⟩
  obtain ⟨M, hM⟩ : ∃ M, M = amN 9 mm' := ⟨_, rfl⟩
  have wK : IntKind.wrap .i64 (1 + (amN 9 kk : Int)) = (K : Int) := by rw [w64 _ (by omega), hK]; simp
  obtain ⟨g3, B, e3, S3, Md⟩ := cauchy_spec (k0 := k0) (by omega) S2 (k := K) (m := M) (by omega) (by omega)
  have c3 := Md.ch
  have nx3 := c3.nx
  have lb3 := Md.lb
  have nb3 := Md.nb
  obtain ⟨g4, st4, k4, n4, b4⟩ := mvar (h := g3) (e := 51) (r := ((K + M : Nat) : Int)) (c := (K : Int)) (s := whole B ((K + M) * K))
  have S4 := S3.keeps k4
  have EC : El ((K + M) * K) (cauN K) := cauN_El (by omega)
  have m3 : Mx g3 B ((K + M) * K) (cauN K) := ⟨by rw [Md.blk]; unfold matN; rw [mat_ext fun t _ => cau_N K t], lb3, EC⟩
  have A4 : MV (h.next + 1) h.next g4 g3.next (K + M) K (whole B ((K + M) * K)) (cauN K) := ⟨b4, by omega, by omega, (m3.keeps k4).inM rfl, fun a ha => by cases ha; exact ⟨by show B ≠ _; omega, by show B ≠ _; omega⟩, by omega, by omega, by omega, by omega, EC⟩
  have lo' : ∀ a, order.a = some a → ¬ a.block = h.next := fun a ha => by have := lo a ha; omega
  have Ro4 := ((Ro.keeps (k1.trans k2)).chg c3 lo').keeps k4
  obtain ⟨g5, sl, c5, GL, e5⟩ := rows_l1 (k0 := k0) (DD k0) (H0 := g4) (base := g4.next) (N := K + M) (by omega) (Nat.le_refl _) (K : Int) order (some ⟨h.next + 1, 0, none⟩) (some ⟨g3.next, 0, none⟩) nilS (K + M) 0 g4 nilS (by omega) (.refl _ _) (.nil _ _)
  have nx5 := c5.nx
  obtain ⟨g6, sr, W, c6, GW, hW, nW, bW, e6⟩ := rows_l0 (k0 := k0) (DD k0) (H0 := g4) (base := g4.next) (N := K + M) (K := K) (by omega) (by omega) (Nat.le_refl _) (K : Int) Ro4 (fun a ha => by have := lo a ha; omega) (some ⟨h.next + 1, 0, none⟩) (some ⟨g3.next, 0, none⟩)
    K 0 g5 sl nilS (List.range (K + M)) [] (by omega) c5 GL (.nil _ _) (fun a b ha hb => by cases hb) (by simp) rfl List.nodup_range (by simp) (fun x hx => List.mem_range.1 hx) (fun x hx => by simp at hx)
  have kp6 : Keeps g4 g6 := ⟨c6.nx, fun x hx _ => c6.oth x hx (by omega)⟩
  have S6 := S4.keeps kp6
  have A6 := A4.keeps kp6
  have Wl : (asI W).length = K := by rw [asI_len, hW]
  have Wok : (asI W).all (okR (K + M)) = true := by
    rw [List.all_eq_true]
    intro x hx
    simp only [asI, List.mem_map] at hx
    obtain ⟨y, hy, rfl⟩ := hx
    have := bW y hy
    simp [okR]; omega
  obtain ⟨g7, X7, e7, O7, k7⟩ := mpick_spec hk (DD k0) (r := ((K + M : Nat) : Int)) (c := (K : Int)) A6.inm A6.len GW.row
  have Ew : ∀ i, i < K → W[i]? = some (natOf (asI W) i) := fun i hi => by
    obtain ⟨x, hx⟩ := isome (l := W) (i := i) (by omega)
    rw [hx, natOf_asI hx]
  have EP : El (K * K) (pickF K (cauN K) (natOf (asI W))) := fun t ht => by
    have hd := (Nat.div_lt_iff_lt_mul (show 0 < K by omega)).2 ht
    have hm := Nat.mod_lt t (show 0 < K by omega)
    have := bW _ (mem_of (Ew _ hd))
    exact EC _ (pos_lt this hm)
  have hp := pickP_ok (R := K + M) (C := K) (a := cauN K) (rows := asI W) (by omega) (by omega) (by omega) (by omega) EC (by omega) (by omega) Wok
  rw [Wl] at hp
  obtain ⟨g8, s8, rfl, st8, V8, S8, q8⟩ := MV.put S6 O7 (Chg.keeps k7) (S6.keeps k7) hp (by omega) (by omega) (by omega) (by omega) EP
  have full := any_rows (k := K) (n := K + M) (by omega) (by omega) hW nW bW (natOf (asI W)) Ew (by omega)
  obtain ⟨i1, i2, ra, ca, s9, cA, x9, y9, okA, _, S9, q9⟩ := invV hk S8 V8
  obtain ⟨rfl, rfl, rfl, V9⟩ := okA full
  obtain ⟨i3, OB, x10, M10⟩ := one_spec (k0 := k0) (by omega) (DD k0) (h := i2) (n := K) (by omega) (by omega)
  obtain ⟨i4, y10, k10, n10, b10⟩ := mvar (h := i3) (e := 51) (r := (K : Int)) (c := (K : Int)) (s := whole OB (K * K))
  have kc10 := M10.ch
  have lb10 := M10.lb
  have nb10 := M10.nb
  have nxc10 := kc10.nx
  have k24 := kc10.trans k10
  have S10 := S9.keeps k24
  have ls9 := S9.ls
  have lf9 := S9.lf
  have o10 : Mx i3 OB (K * K) (oneN K) := ⟨by rw [M10.blk]; unfold matN; rw [mat_ext fun t _ => oneF_N K t], lb10, oneN_El K⟩
  have V10 : MV (h.next + 1) h.next i4 i3.next K K (whole OB (K * K)) (oneN K) := ⟨b10, by omega, by omega, (o10.keeps k10).inM rfl, fun a ha => by cases ha; exact ⟨by show OB ≠ _; omega, by show OB ≠ _; omega⟩, by omega, by omega, by omega, by omega, oneN_El K⟩
  obtain ⟨i5, i6, s11, x11, y11, V11, S11, q11⟩ := mulV hk S10 ((V8.chg q9).keeps k24) (V9.keeps k24)
  obtain ⟨i7, i8, s12, x12, y12, V12, S12, q12⟩ := mulV hk S11 ((V9.keeps k24).chg q11) (((V8.chg q9).keeps k24).chg q11)
  have V8z := ((((V8.chg q9).keeps k24).chg q11).chg q12)
  obtain ⟨i9, x13, S13, q13⟩ := rankV hk S12 V8z
  rw [full] at x13
  have I := full_inv (n := K) (by omega) EP full
  have EI : El (K * K) (invU K (pickF K (cauN K) (natOf (asI W)))) := invU_El (by omega) EP
  have one1 : ∀ t, t < K * K → mulG K K (pickF K (cauN K) (natOf (asI W))) (invU K (pickF K (cauN K) (natOf (asI W)))) t = oneN K t := Vw_inj (by omega) (mul_El _ _ _ _ _) (oneN_El K) ((Vw_mul EP EI).trans (I.r.trans fun i j _ hj => (Vw_one hj).symm))
  have one2 : ∀ t, t < K * K → mulG K K (invU K (pickF K (cauN K) (natOf (asI W)))) (pickF K (cauN K) (natOf (asI W))) t = oneN K t := Vw_inj (by omega) (mul_El _ _ _ _ _) (oneN_El K) ((Vw_mul EI EP).trans (I.l.trans fun i j _ hj => (Vw_one hj).symm))
  have V10z := ((V10.chg q11).chg q12).chg q13
  have V11z := (V11.chg q12).chg q13
  obtain ⟨j1, x14, S14, q14⟩ := alikeV hk (DD k0) S13 V11z V10z one1
  obtain ⟨j2, x15, S15, q15⟩ := alikeV hk (DD k0) S14 ((V12.chg q13).chg q14) (V10z.chg q14) one2
  have z6 := A6.cel
  have z8 := V8.cel
  have z8b := ((V8.chg q9).keeps k24).cel
  have z9b := (V9.keeps k24).cel
  have z8c := (((V8.chg q9).keeps k24).chg q11).cel
  have z9c := ((V9.keeps k24).chg q11).cel
  have z8d := V8z.cel
  have z11 := V11z.cel
  have z10 := V10z.cel
  have z12 := ((V12.chg q13).chg q14).cel
  have z10b := (V10z.chg q14).cel
  refine ⟨j2, ?_⟩
  unfold law04_MatrixRows
  refine bnd e1 ?_
  refine jn ?_
  refine ifn (by simp) (bnd e2 ?_)
  refine ifn (by simp) ?_
  refine bnd ea0 (bnd ea1 ?_)
  dsimp only
  rw [wK, ← hM]
  refine bnd e3 (bnd st4 ?_)
  refine ifn (by simp) ?_
  refine jn ?_
  rw [show IntKind.wrap .i64 ((K : Int) + (M : Int)) = ((K + M : Nat) : Int) by rw [w64 _ (by omega)]; simp]
  unfold law04_MatrixRows_l1
  obtain ⟨bot1, hbot1⟩ := iterK_of (fun _ _ _ _ _ _ _ _ _ => none) (law04_MatrixRows_l1b k0 (DD k0) _) (show K + M + 1 ≤ k0 by omega)
  rw [hbot1]
  refine (e5 _ bot1).trans ?_
  refine jn ?_
  unfold law04_MatrixRows_l0
  obtain ⟨bot0, hbot0⟩ := iterK_of (fun _ _ _ _ _ _ _ _ _ => none) (law04_MatrixRows_l0b k0 (DD k0) _) (show K + 1 ≤ k0 by omega)
  rw [hbot0]
  refine (e6 _ bot0).trans ?_
  with_reducible repeat' first | refine sbn ?_ | refine bnd (ldM3 (by assumption)) ?_ | refine bnd (decM3 _ _ _) ?_ | refine bnd (ldI0 (by assumption)) ?_ | refine bnd (ldI1 (by assumption)) ?_ | refine bnd (ldL2 (by assumption)) ?_ | refine jn ?_ | refine gp1 ?_ ?_ | refine gp2 ?_ ?_ ?_ | refine gp3 ?_ ?_ ?_ ?_ | refine bnd (ldZ0 (by assumption)) ?_ | refine bnd (ldZ1 (by assumption)) ?_ | refine bnd (ldZ2 (by assumption)) ?_ | rfl
  refine bnd e7 (bnd st8 ?_)
  with_reducible repeat' first | refine sbn ?_ | refine bnd (ldM3 (by assumption)) ?_ | refine bnd (decM3 _ _ _) ?_ | refine bnd (ldI0 (by assumption)) ?_ | refine bnd (ldI1 (by assumption)) ?_ | refine bnd (ldL2 (by assumption)) ?_ | refine jn ?_ | refine gp1 ?_ ?_ | refine gp2 ?_ ?_ ?_ | refine gp3 ?_ ?_ ?_ ?_ | refine bnd (ldZ0 (by assumption)) ?_ | refine bnd (ldZ1 (by assumption)) ?_ | refine bnd (ldZ2 (by assumption)) ?_ | rfl
  refine bnd x9 (bnd y9 ?_)
  refine bnd x10 (bnd y10 ?_)
  with_reducible repeat' first | refine sbn ?_ | refine bnd (ldM3 (by assumption)) ?_ | refine bnd (decM3 _ _ _) ?_ | refine bnd (ldI0 (by assumption)) ?_ | refine bnd (ldI1 (by assumption)) ?_ | refine bnd (ldL2 (by assumption)) ?_ | refine jn ?_ | refine gp1 ?_ ?_ | refine gp2 ?_ ?_ ?_ | refine gp3 ?_ ?_ ?_ ?_ | refine bnd (ldZ0 (by assumption)) ?_ | refine bnd (ldZ1 (by assumption)) ?_ | refine bnd (ldZ2 (by assumption)) ?_ | rfl
  refine bnd x11 (bnd y11 ?_)
  with_reducible repeat' first | refine sbn ?_ | refine bnd (ldM3 (by assumption)) ?_ | refine bnd (decM3 _ _ _) ?_ | refine bnd (ldI0 (by assumption)) ?_ | refine bnd (ldI1 (by assumption)) ?_ | refine bnd (ldL2 (by assumption)) ?_ | refine jn ?_ | refine gp1 ?_ ?_ | refine gp2 ?_ ?_ ?_ | refine gp3 ?_ ?_ ?_ ?_ | refine bnd (ldZ0 (by assumption)) ?_ | refine bnd (ldZ1 (by assumption)) ?_ | refine bnd (ldZ2 (by assumption)) ?_ | rfl
  refine bnd x12 (bnd y12 ?_)
  with_reducible repeat' first | refine sbn ?_ | refine bnd (ldM3 (by assumption)) ?_ | refine bnd (decM3 _ _ _) ?_ | refine bnd (ldI0 (by assumption)) ?_ | refine bnd (ldI1 (by assumption)) ?_ | refine bnd (ldL2 (by assumption)) ?_ | refine jn ?_ | refine gp1 ?_ ?_ | refine gp2 ?_ ?_ ?_ | refine gp3 ?_ ?_ ?_ ?_ | refine bnd (ldZ0 (by assumption)) ?_ | refine bnd (ldZ1 (by assumption)) ?_ | refine bnd (ldZ2 (by assumption)) ?_ | rfl
  refine bnd x13 ?_
  refine ifp (by simp) (ifp (by simp) (ifp (by simp) (ifp (by simp) (ifp (by simp) (ifp (by simp) ?_)))))
  with_reducible repeat' first | refine sbn ?_ | refine bnd (ldM3 (by assumption)) ?_ | refine bnd (decM3 _ _ _) ?_ | refine bnd (ldI0 (by assumption)) ?_ | refine bnd (ldI1 (by assumption)) ?_ | refine bnd (ldL2 (by assumption)) ?_ | refine jn ?_ | refine gp1 ?_ ?_ | refine gp2 ?_ ?_ ?_ | refine gp3 ?_ ?_ ?_ ?_ | refine bnd (ldZ0 (by assumption)) ?_ | refine bnd (ldZ1 (by assumption)) ?_ | refine bnd (ldZ2 (by assumption)) ?_ | rfl
  refine bnd x14 (ifp rfl ?_)
  with_reducible repeat' first | refine sbn ?_ | refine bnd (ldM3 (by assumption)) ?_ | refine bnd (decM3 _ _ _) ?_ | refine bnd (ldI0 (by assumption)) ?_ | refine bnd (ldI1 (by assumption)) ?_ | refine bnd (ldL2 (by assumption)) ?_ | refine jn ?_ | refine gp1 ?_ ?_ | refine gp2 ?_ ?_ ?_ | refine gp3 ?_ ?_ ?_ ?_ | refine bnd (ldZ0 (by assumption)) ?_ | refine bnd (ldZ1 (by assumption)) ?_ | refine bnd (ldZ2 (by assumption)) ?_ | rfl
  refine bnd x15 (ifp rfl ?_)
  simp
end Gy
