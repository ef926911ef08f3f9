import Derived.Test.YtcacldakplomnaaGreatDoorSp2
namespace Gz
open Go Gx Go.Proofs
theorem fits_of {k m : Nat} (data : ByteArray) (i j : Nat) : fitsA (shOf k m data i) (shOf k m data j) = true := by simp [fitsA, shOf, ba_beq]
theorem part_of {k m : Nat} (data : ByteArray) {i : Nat} (hi : i < k + m) : partOf (shOf k m data i) = prtOf (shardsL k m data) i := by
  simp only [partOf, shOf, prtOf, shards_get data hi, Option.getD_some]
theorem all_ok {k m : Nat} (hk : 0 < k) (hR : k + m ≤ 255) {data : ByteArray} (hd : data.size ≤ 65536) (i0 : Nat) {is : List Nat} (h : ∀ i ∈ is, i < k + m) : (is.map (shOf k m data)).all (okB (shOf k m data i0)) = true := by
  rw [List.all_eq_true]
  intro x hx
  obtain ⟨i, hi, rfl⟩ := List.mem_map.1 hx
  unfold okB
  rw [decide_eq_true (shOf_ok hk hR hd (h i hi)), fits_of]; rfl
theorem parts_eq {k m : Nat} (data : ByteArray) {is : List Nat} (h : ∀ i ∈ is, i < k + m) : (is.map (shOf k m data)).map partOf = is.map (prtOf (shardsL k m data)) := by
  rw [List.map_map]
  exact List.map_congr_left fun i hi => part_of data (h i hi)
theorem gather_all {k m : Nat} (hk : 0 < k) (hR : k + m ≤ 255) {data : ByteArray} (hd : data.size ≤ 65536) {is : List Nat} (h1 : is.length = k) (h2 : is.Nodup) (h3 : ∀ i ∈ is, i < k + m) : gatherP (is.map (shOf k m data)) = (data, 0) := by
  cases is with
  | nil => simp at h1; omega
  | cons i0 is =>
    unfold gatherP
    simp only [List.map_cons]
    rw [if_pos (by have := all_ok hk hR hd i0 h3; rwa [List.map_cons] at this)]
    have e : joinS (shOf k m data i0) (shOf k m data i0 :: is.map (shOf k m data)) = (data, 0) := by
      show joinP k m ((shOf k m data i0 :: is.map (shOf k m data)).map partOf) (data.size : Int) = _
      rw [← List.map_cons, parts_eq data h3]
      exact join_of hk hR hd (ofS_of hk hR h1 h2 fun x hx => by rw [shardsL_length]; exact h3 x hx)
    rw [e, if_neg (by simp)]
    exact if_pos rfl
theorem gather_few {k m : Nat} (hk : 0 < k) (hR : k + m ≤ 255) {data : ByteArray} (hd : data.size ≤ 65536) {i0 : Nat} (hi : i0 < k + m) (h1 : 1 < k) : gatherP [shOf k m data i0] = (⟨#[]⟩, 50) := by
  unfold gatherP
  simp only
  have h3 : ∀ i ∈ [i0], i < k + m := fun i hi' => by simp at hi'; omega
  rw [if_pos (by have := all_ok hk hR hd i0 h3; simpa using this)]
  have e : joinS (shOf k m data i0) [shOf k m data i0] = (⟨#[]⟩, 50) := by
    show joinP k m ([i0].map (shOf k m data) |>.map partOf) (data.size : Int) = _
    rw [parts_eq data h3]
    refine (join_few hk hd (ps := [i0].map (prtOf (shardsL k m data))) ⟨by simp [idxs], by simp; omega, fun x hx => ?_⟩ (by simpa using h1)).1
    simp at hx
    subst hx
    refine ⟨⟨by simp [prtOf], by simp [prtOf]; omega⟩, ?_⟩
    simp only [prtOf, shards_get data hi, Option.getD_some]
    exact (shard_bv hk hR data hi).1
  rw [e, if_pos (by simp)]
theorem gather_sum (xs : List Sh) (l0 : Sh) (hx : xs = [l0]) : ((gatherP xs).2 ≠ 0 ∧ (gatherP xs).1 = ⟨#[]⟩) ∨ ((gatherP xs).2 = 0 ∧ digB (gatherP xs).1 = l0.2.2.2.2.1) := by
  subst hx
  unfold gatherP
  simp only
  split
  · split
    · rename_i c; exact .inl ⟨c, rfl⟩
    · split
      · rename_i c; exact .inr ⟨rfl, c⟩
      · exact .inl ⟨by simp, rfl⟩
  · exact .inl ⟨by simp, rfl⟩
def othL (left i : Nat) : List Nat := (List.range i).filter (· ≠ left)
theorem othL_three {left : Nat} (h : left < 3) : (othL left 3).length = 2 ∧ (othL left 3).Nodup ∧ ∀ x ∈ othL left 3, x < 2 + 1 := by
  refine ⟨?_, List.Nodup.sublist List.filter_sublist List.nodup_range, fun x hx => ?_⟩
  · match left, h with
    | 0, _ => rfl
    | 1, _ => rfl
    | 2, _ => rfl
    | n + 3, h => omega
  · have := (List.mem_filter.1 hx).1
    simpa using this
theorem wh_l0 {k0 : Nat} (hk0 : 70000 ≤ k0) (D : CallF) (j) (bot) {data : ByteArray} (hd : data.size ≤ 300) {left : Int} {lf : Nat} (hl : ∀ h, book_Among k0 D left 3 h = some ((lf : Int), h)) {other : Option Addr} {l : Slc} {h0 : AHeap} (R : Row encS h0 l ((List.range (2 + 1)).map (txt 2 1 data)))
    (hj : ∀ h two, Keeps h0 h → AccW 6 shC 33 h0.next h two ((othL lf 3).map (shOf 2 1 data)) → Tru (j data other two h) true) :
    ∀ (d i : Nat) (two : Slc) (h : AHeap), i + d = 3 → Keeps h0 h → AccW 6 shC 33 h0.next h two ((othL lf i).map (shOf 2 1 data)) →
      Tru (iterK bot (d + 1) (law06_ShardWhole_l0b k0 D j) data left other l two (i : Int) h) true := fun d => by
  induction d with
  | zero =>
    intro i two h hi kp A
    rw [iterK_s]; simp only [law06_ShardWhole_l0b]
    obtain rfl : i = 3 := by omega
    exact Tru.ifn (by simp) (hj h two kp A)
  | succ d ih =>
    intro i two h hi kp A
    rw [iterK_s]; simp only [law06_ShardWhole_l0b]
    refine Tru.ifp (by simp; omega) ?_
    refine Tru.jn fun j1 hj1 => ?_
    have gi : ((List.range (2 + 1)).map (txt 2 1 data))[i]? = some (txt 2 1 data i) := by rw [List.getElem?_map, List.getElem?_range (by omega)]; rfl
    obtain ⟨q, i1, i2⟩ := (R.keeps kp).ldS gi
    have hok := shOf_ok (k := 2) (m := 1) (by decide) (by decide) (data := data) (by omega) (i := i) (by omega)
    have szs : (txt 2 1 data i).size ≤ 70000 := by
      unfold txt
      rw [size_mk, textL_length]
      have := chk_size hok
      obtain ⟨_, _, _, _, c5, _⟩ := chk_facts hok
      omega
    obtain ⟨h1, r1, k1⟩ := dec_spec (k := k0) hk0 D (txt 2 1 data i) h (by omega)
    have dt : decS' (txt 2 1 data i) = (shOf 2 1 data i, 0) := dec_text hok
    rw [dt] at r1
    refine Tru.bnd i1 (Tru.bnd i2 (Tru.bnd r1 ?_))
    let h2 := h1.new (.cells (shC zSh) 33 true 0)
    have g2 : h2.get h1.next = some (.cells (shC zSh) 33 true 0) := by simp [h2]
    have s2 := sstL_at (sp := none) (cs := shC (shOf 2 1 data i)) g2 rfl rfl (shC_one _) (by decide)
    refine Tru.bnd s2 ?_
    obtain ⟨h3, e3⟩ : ∃ h3, h3 = h2.set h1.next (.cells (shC (shOf 2 1 data i)) 33 true 0) := ⟨_, rfl⟩
    rw [← e3]
    have g3 : h3.get h1.next = some (.cells (shC (shOf 2 1 data i)) 33 true 0) := by rw [e3]; exact sset_get _ _ _
    have k3 : Keeps h h3 := by rw [e3]; exact Keeps.set (k1.trans (Keeps.new h1 _)) k1.nx
    refine Tru.ifn (by simp) ?_
    refine Tru.bnd (hl h3) ?_
    by_cases c : i = lf
    · refine Tru.ifn (by simp [c]) ?_
      subst hj1
      dsimp only
      rw [Gx.w1 (by omega)]
      refine ih (i + 1) two h3 (by omega) (kp.trans k3) ?_
      have : othL lf (i + 1) = othL lf i := by simp [othL, List.range_succ, c]
      rw [this]; exact A.keeps k3
    · refine Tru.ifp (by simp; omega) ?_
      refine Tru.bnd (sldA_at g3 rfl) (Tru.bnd (sh_dec _) ?_)
      refine Tru.bnd (rdS_oneW (w := 6) shC_len (shOf 2 1 data i) 33) ?_
      obtain ⟨t2, h5, a1, A5, c5, _⟩ := (A.keeps k3).push shC_len shC_one (shOf 2 1 data i) (bytes := 64) (by decide) (by
        have : ((othL lf i).map (shOf 2 1 data)).length ≤ i := by
          rw [List.length_map]
          exact Nat.le_trans (List.length_filter_le _ _) (by simp)
        omega) (kp.trans k3).nx
      refine Tru.bnd a1 ?_
      subst hj1
      dsimp only
      rw [Gx.w1 (by omega)]
      refine ih (i + 1) t2 h5 (by omega) (Chg.beh (kp.trans k3) c5 fun x hx ⟨a, ha, e⟩ => by have := (A.lt a ha).2; omega) ?_
      have : othL lf (i + 1) = othL lf i ++ [i] := by simp [othL, List.range_succ, c]
      rw [this, List.map_append]; exact A5
theorem whole_true {k0 : Nat} (hk0 : 200000 ≤ k0) {h : AHeap} (kg : KG 0 h) (data : ByteArray) (left : Int) (other : Sh) : Tru (law06_ShardWhole k0 (DD k0) data left other h) true := by
  simp only [law06_ShardWhole]
  let h1 := h.new (.cells (shC other) 33 true 0)
  have k1 : Keeps h h1 := Keeps.new h _
  have b1 : h1.get h.next = some (.cells (shC other) 33 true 0) := by simp [h1]
  have n1 : h1.next = h.next + 1 := rfl
  obtain ⟨h2, r2, k2⟩ := works_spec (k := k0) (by omega) (DD k0) h1
  have b2 : h2.get h.next = some (.cells (shC other) 33 true 0) := (k2.oth _ (by omega) (fun f => f)).trans b1
  refine Tru.bnd r2 (Tru.ifn (by simp) ?_)
  refine Tru.jn fun j1 hj1 => ?_
  have yes : Tru (j1 data left (some ⟨h.next, 0, none⟩) true h2) true := by
    subst hj1
    exact Tru.ifp rfl Tru.of
  by_cases c0 : (data.size : Int) > 300
  · exact Tru.ifp (by simpa using c0) yes
  refine Tru.ifn (by simpa using c0) ?_
  have no : Tru (j1 data left (some ⟨h.next, 0, none⟩) false h2) true := by
    subst hj1
    refine Tru.ifn (by decide) ?_
    obtain ⟨⟨⟨o, code⟩, h3⟩, r3, z1, k3, R3, _⟩ := make_spec (k0 := k0) (by omega) (kg.chg (k1.trans k2) fun f => f) (k := 2) (m := 1) (by decide) (by decide) (data := data) (by omega)
    simp only at z1 k3 R3
    subst z1
    have r3' : shard_Make k0 (DD k0) 2 1 data h2 = some ((o, 0), h3) := r3
    refine Tru.bnd r3' ?_
    refine Tru.jn fun j2 hj2 => ?_
    refine Tru.ifn (by simp) ?_
    subst hj2
    have ol : o.len = 3 := R3.1
    refine Tru.ifn (by rw [ol]; simp) ?_
    obtain ⟨lf, hlf, _⟩ := among_spec k0 (DD k0) left 3 h3 (by decide) (by decide)
    have hla : ∀ g, book_Among k0 (DD k0) left 3 g = some ((lf : Int), g) := fun g => by
      rename_i ra
      simp only [book_Among] at ra ⊢
      rw [if_neg (by decide), if_neg (by decide)] at ra ⊢
      simp only [Option.some.injEq, Prod.mk.injEq] at ra ⊢
      exact ⟨ra.1, trivial⟩
    refine Tru.jn fun j3 hj3 => ?_
    unfold law06_ShardWhole_l0
    obtain ⟨bot, eb⟩ := iterK_of (fun _ _ _ _ _ _ _ => none) (law06_ShardWhole_l0b k0 (DD k0) j3) (show 3 + 1 ≤ k0 by omega)
    rw [eb]
    refine wh_l0 (by omega) (DD k0) j3 bot (by omega) hla R3 ?_ 3 0 ⟨none, 0, 0⟩ h3 (by omega) (Chg.refl _ _) (AccW.nil _ _ _ _ _)
    intro h4 two k4 A4
    subst hj3
    dsimp only
    obtain ⟨o1, o2, o3⟩ := othL_three hlf
    have K4 : Keeps h1 h4 := k2.trans (k3.trans k4)
    have R4 := A4.row shC_len
    obtain ⟨⟨v5, h5⟩, r5, e5, k5⟩ := gather_spec hk0 (kg.chg (k1.trans K4) fun f => f) R4 (by rw [List.length_map, o1]; decide)
    simp only at e5 k5
    rw [gather_all (by decide) (by decide) (by omega) o1 o2 o3] at e5
    subst e5
    have b5 : h5.get h.next = some (.cells (shC other) 33 true 0) := ((K4.trans k5).oth _ (by omega) (fun f => f)).trans b1
    refine Tru.bnd r5 (Tru.bnd rfl (Tru.bnd (sldA_at b5 rfl) (Tru.bnd (sh_dec other) ?_)))
    let h6 := h5.new (.cells (shC other) 33 true 0)
    have k6 : Keeps h5 h6 := Keeps.new h5 _
    have R6 : RowW 6 shC h6 (⟨some ⟨h5.next, 0, some 0⟩, 1, 1⟩ : Slc) [other] := by
      have := rowW_blk (h := h6) (n := 1) (cap := 1) (sp := some 0) (ys := [other]) (e := 33) (r := true) (fz := 0) (b := h5.next) shC_len (by simp [h6]) (by simp [h6]) (by simp)
      exact this
    obtain ⟨⟨v7, h7⟩, r7, e7, k7⟩ := gather_spec hk0 (kg.chg (k1.trans (K4.trans (k5.trans k6))) fun f => f) R6 (by simp)
    simp only at e7 k7
    refine Tru.bnd r7 ?_
    have A7 := A4.keeps (k5.trans (k6.trans k7))
    obtain ⟨t, t1, t2, _⟩ := A7.take shC_len (n := 1) (by rw [List.length_map, o1]; decide) (by rw [List.length_map, o1]; decide)
    have t1' : Gx.subL 6 two none (some 1) none = some t := t1
    obtain ⟨⟨v8, h8⟩, r8, e8, k8⟩ := gather_spec hk0 (kg.chg (k1.trans (K4.trans (k5.trans (k6.trans k7)))) fun f => f) t2 (by rw [List.length_take]; omega)
    simp only at e8 k8
    have e8' : v8 = (⟨#[]⟩, 50) := by
      rw [e8]
      cases hq : othL lf 3 with
      | nil => rw [hq] at o1; cases o1
      | cons i0 rest =>
        rw [List.map_cons]
        exact gather_few (by decide) (by decide) (by omega) (o3 i0 (by rw [hq]; exact List.mem_cons_self ..)) (by decide)
    subst e8'
    refine Tru.bnd t1' (Tru.bnd r8 ?_)
    refine Tru.ifp (by simp) (Tru.ifp (by rw [ba_beq]; exact decide_eq_true rfl) ?_)
    have b8 : h8.get h.next = some (.cells (shC other) 33 true 0) := ((K4.trans (k5.trans (k6.trans (k7.trans k8)))).oth _ (by omega) (fun f => f)).trans b1
    have hs := gather_sum [other] other rfl
    rw [← e7] at hs
    rcases hs with ⟨f1, f2⟩ | ⟨f1, f2⟩
    · refine Tru.ifp (by simpa using f1) ?_
      refine Tru.ifp (by rw [f2, ba_beq]; exact decide_eq_true rfl) ?_
      exact Tru.of
    · refine Tru.ifn (by simpa using f1) ?_
      have szv : v7.1.size ≤ 65536 := by
        rw [e7] at f1 ⊢
        revert f1
        unfold gatherP
        simp only
        split
        · rename_i hall
          split
          · rename_i cj; intro f1; exact absurd f1 cj
          · rename_i cj
            split
            · intro _
              have hok0 : okB other other = true := List.all_eq_true.1 hall other (List.mem_cons_self ..)
              unfold okB at hok0
              simp only [Bool.and_eq_true, decide_eq_true_eq] at hok0
              obtain ⟨c1, c2, _, c4, _, _⟩ := chk_facts hok0.1
              have := joinP_size (k := other.1.toNat) (m := other.2.1.toNat) (by omega) (by omega) (ps := [other].map partOf) (long := other.2.2.2.1) (Decidable.not_not.1 cj)
              show (joinP other.1.toNat other.2.1.toNat ([other].map partOf) other.2.2.2.1).1.size ≤ 65536
              omega
            · intro f1; cases f1
        · intro f1; cases f1
      have k9 : Keeps h8 (h8.new (.cells [.string v7.1] 9 true 0)) := Keeps.new h8 _
      have R9 : Row encS (h8.new (.cells [.string v7.1] 9 true 0)) (⟨some ⟨h8.next, 0, some 0⟩, 1, 1⟩ : Slc) [v7.1] :=
        Row.of_block (enc := encS) (xs := [v7.1]) (b := h8.next) (o := 0) (c := [.string v7.1]) (e := 9) (r := true) (fz := 0) (by simp) (by simp) fun i x hx => by
          match i with
          | 0 => cases hx; rfl
          | i + 1 => simp at hx
      have cl : catL [v7.1] = bl v7.1 := by simp [catL]
      have K8 : Keeps h1 h8 := K4.trans (k5.trans (k6.trans (k7.trans k8)))
      obtain ⟨⟨dg, h10⟩, r10, z1, z2⟩ := sum_spec (k0 := k0) (by omega) (DD k0) (kg.chg (k1.trans (K8.trans k9)) fun f => f) R9 (by rw [cl, bl_length]; omega) (by rw [cl, bl_length]; omega) (by simp; omega) (by simp)
      rw [cl] at z1
      simp only at z1 z2
      subst z1
      have n8 := K8.nx
      have b9 : (h8.new (.cells [.string v7.1] 9 true 0)).get h.next = some (.cells (shC other) 33 true 0) := (k9.oth _ (by omega) (fun f => f)).trans b8
      have b10 : h10.get h.next = some (.cells (shC other) 33 true 0) := (z2.oth _ (Nat.lt_of_lt_of_le (by omega) k9.nx) (fun f => f)).trans b9
      have lid : ∀ {g : AHeap}, g.get h.next = some (.cells (shC other) 33 true 0) → ldS ⟨h.next, 4, none⟩ g = some other.2.2.2.2.1 := fun hg => ldS_at hg rfl
      refine Tru.bnd r10 (Tru.bnd rfl (Tru.bnd (lid b10) ?_))
      have gd : guardP (SameW [h8.new (.cells [.string v7.1] 9 true 0), h8] (fun H41 => (ldS (⟨h.next, 4, none⟩ : Addr) H41).bind fun y40 => some (.string y40)) (.string other.2.2.2.2.1)) = fun (z : Option (Bool × AHeap)) => z := by
        funext z
        exact guardP_true (sw2 (by rw [lid b9]; rfl) (by rw [lid b8]; rfl))
      have f2' : (⟨⟨digest (bl v7.1)⟩⟩ : ByteArray) = other.2.2.2.2.1 := f2
      show Tru (guardP (SameW [h8.new (.cells [.string v7.1] 9 true 0), h8] (fun H41 => (ldS (⟨h.next, 4, none⟩ : Addr) H41).bind fun y40 => some (.string y40)) (.string other.2.2.2.2.1)) _) true
      rw [gd]
      refine Tru.ifp (by rw [ba_beq]; exact decide_eq_true f2') ?_
      exact Tru.of
  refine Tru.bnd (ldS_at b2 (show (shC other)[5]? = some (.string other.2.2.2.2.2) from rfl)) ?_
  by_cases c1 : (other.2.2.2.2.2.size : Int) > 300
  · exact Tru.ifp (by simpa using c1) yes
  refine Tru.ifn (by simpa using c1) ?_
  refine Tru.bnd (sldI_at b2 (show (shC other)[0]? = some (.int .i64 other.1) from rfl)) ?_
  by_cases c2 : other.1 > 20
  · exact Tru.ifp (by simpa using c2) yes
  refine Tru.ifn (by simpa using c2) ?_
  refine Tru.bnd (sldI_at b2 (show (shC other)[1]? = some (.int .i64 other.2.1) from rfl)) ?_
  by_cases c3 : other.2.1 > 20
  · rw [decide_eq_true c3]; exact yes
  · rw [decide_eq_false c3]; exact no
end Gz
