import Derived.Test.YtmhahnefniiipaaGreatSp1
namespace Gt
open Go Gx
def jobAt (qs : List Rq) (ss : List Sb) (i : Nat) : Prg := askAll (qs.drop i) (ansL (qs.take i) ss).2 fun ys => finP (Rz.of ys)
theorem ansL_snoc : ∀ (qs : List Rq) (q : Rq) (ss : List Sb), ansL (qs ++ [q]) ss = ((ansS (ansL qs ss).1 q).1, (ansL qs ss).2 ++ [(ansS (ansL qs ss).1 q).2])
 | [], q, ss => rfl
 | r :: qs, q, ss => by simp only [List.cons_append, ansL, ansL_snoc qs q]
theorem ansL_set (y : Nat) : ∀ (qs : List Rq) (ss : List Sb), SSet (ansL qs ss).1 y ↔ SSet ss y
 | [], _ => Iff.rfl
 | q :: qs, ss => (ansL_set y qs _).trans (SSet_ans ss q y)
theorem jobAt_next {qs : List Rq} {i : Nat} {q : Rq} (hq : qs[i]? = some q) : qs.take (i + 1) = qs.take i ++ [q] := by rw [List.take_add_one, hq]; rfl
theorem jobAt_ask {qs : List Rq} {ss : List Sb} {i : Nat} {q : Rq} (hq : qs[i]? = some q) : ∃ kk, jobAt qs ss i = .ask q kk ∧ kk (ansS (ansL (qs.take i) ss).1 q).2 = jobAt qs ss (i + 1) := by
 refine ⟨fun y => askAll (qs.drop (i + 1)) ((ansL (qs.take i) ss).2 ++ [y]) fun ys => finP (Rz.of ys), ?_, ?_⟩
 ·unfold jobAt; rw [dropc hq]; rfl
 ·unfold jobAt; rw [jobAt_next hq, ansL_snoc]
theorem jobAt_over {qs : List Rq} {ss : List Sb} {i : Nat} (hi : i ≤ qs.length) : (jobAt qs ss i).over = decide (i = qs.length) := by
 by_cases c : i = qs.length
 ·subst c
  unfold jobAt
  rw [List.drop_length, decide_eq_true rfl]; rfl
 ·obtain ⟨q, hq⟩ := isome (l := qs) (i := i) (by omega)
  obtain ⟨kk, e, _⟩ := jobAt_ask (ss := ss) hq
  rw [e, decide_eq_false c]; rfl
def TF (O : Nat → Prop) (jb : Nat) (ss : List Sb) (sl : Slc) (y : Nat) : Prop := JSet O jb y ∨ SSet ss y ∨ ofS sl y
structure TJ (k : Nat) (qs : List Rq) (ss : List Sb) (jb : Nat) (sl : Slc) (i : Nat) (O : Nat → Prop) (h : AHeap) : Prop where
 j : JobP (lvl k) 4 jb (jobAt qs ss i) i O h
 s : Sts h sl i (ansL (qs.take i) ss).1
 d : ∀ y, SSet ss y → ¬ JSet O jb y
 e : ∀ a, sl.a = some a → ¬ JSet O jb a.block
 lt : ∀ y, TF O jb ss sl y → y < h.next
theorem TJ.chg {S : Nat → Prop} {k : Nat} {qs : List Rq} {ss : List Sb} {jb : Nat} {sl : Slc} {i : Nat} {O : Nat → Prop} {h h' : AHeap} (J : TJ k qs ss jb sl i O h) (c : Chg S h h') (hs : ∀ y, TF O jb ss sl y → ¬ S y) : TJ k qs ss jb sl i O h' :=
 ⟨J.j.chg c fun y hy => hs y (.inl hy), J.s.chg c (fun y hy => hs y (.inr (.inl ((ansL_set y _ _).1 hy)))) fun a ha => hs _ (.inr (.inr ⟨a, ha, rfl⟩)), J.d, J.e, fun y hy => Nat.lt_of_lt_of_le (J.lt y hy) c.nx⟩
theorem TJ.run {k n : Nat} (hn : 4 ≤ n) (hk : 100000 < k) {qs : List Rq} {ss : List Sb} {jb : Nat} {sl : Slc} {i : Nat} {O : Nat → Prop} {h : AHeap} (J : TJ k qs ss jb sl i O h) (hi : i < qs.length) (hq : qs.length ≤ 1000) (hnm : ∀ q ∈ qs, NameOk k q) :
  Gx.Wp (port_Run k (lvl k n) (some ⟨jb, 0, none⟩) sl 1 h) fun z => ∃ O', z.1 = (1, if i + 1 = qs.length then 0 else 2) ∧ TJ k qs ss jb sl (i + 1) O' z.2 ∧ Chg (TF O jb ss sl) h z.2 ∧ ∀ y, TF O' jb ss sl y → TF O jb ss sl y ∨ h.next ≤ y := by
 obtain ⟨q, hqi⟩ := isome hi
 obtain ⟨kk, e1, e2⟩ := jobAt_ask (ss := ss) hqi
 have sS : ∀ y, SSet (ansL (qs.take i) ss).1 y ↔ SSet ss y := fun y => ansL_set y _ _
 have R : RunR k 1 (jobAt qs ss i) (ansL (qs.take i) ss).1 (jobAt qs ss (i + 1)) (ansS (ansL (qs.take i) ss).1 q).1 1 := by
  rw [e1]
  refine RunR.step (most := 0) (s := 0) (hnm q (mem_of hqi)) ?_
  rw [e2]; exact .stop
 refine Gx.Wp.mono (Run_P (L := lvl k) (N := 4) hn R J.j J.s (fun y hy => ?_) (fun a ha => ?_) (by omega) (by omega) (by omega)) fun z hz => ?_
 ·have hy := (sS y).1 hy
  exact ⟨J.lt y (.inr (.inl hy)), J.d y hy⟩
 ·exact ⟨J.lt _ (.inr (.inr ⟨a, ha, rfl⟩)), J.e a ha⟩
 ·obtain ⟨O', v, j', sub, far, sset, s', c⟩ := hz
  have hov := jobAt_over (qs := qs) (ss := ss) (i := i + 1) (by omega)
  have nx := c.nx
  have fr : ∀ y, JSet O' jb y → JSet O jb y ∨ h.next ≤ y := fun y hy => hy.elim (fun hy => (far y hy).imp .inl id) fun hy => .inl (.inr hy)
  refine ⟨O', ?_, ⟨j', ?_, fun y hy z => ?_, fun a ha z => ?_, fun y hy => ?_⟩, c.wk fun y _ z => z.elim (fun z => .inr (.inl ((sS y).1 z))) fun z => .inl (.inl z), fun y hy => ?_⟩
  ·rw [v, hov]
   by_cases ce : i + 1 = qs.length <;> simp [ce]
  ·rw [jobAt_next hqi, ansL_snoc]; exact s'
  ·rcases fr y z with z | z
   ·exact J.d y hy z
   ·have := J.lt y (.inr (.inl hy)); omega
  ·rcases fr _ z with z | z
   ·exact J.e a ha z
   ·have := J.lt _ (.inr (.inr ⟨a, ha, rfl⟩)); omega
  ·rcases hy with hy | hy
   ·rcases hy with hy | rfl
    ·exact j'.lt y hy
    ·exact j'.lj
   ·exact Nat.lt_of_lt_of_le (J.lt y (.inr hy)) nx
  ·rcases hy with hy | hy
   ·exact (fr y hy).imp .inl id
   ·exact .inl (.inr hy)
theorem ansL_same : ∀ {qs : List Rq} {ss uu : List Sb}, ss.map (·.2.2) = uu.map (·.2.2) → (ansL qs ss).2 = (ansL qs uu).2 ∧ (ansL qs ss).1.map (·.2.2) = (ansL qs uu).1.map (·.2.2)
 | [], _, _, e => ⟨rfl, e⟩
 | q :: qs, ss, uu, e => by
  have one : (ansS ss q).2 = (ansS uu q).2 ∧ (ansS ss q).1.map (·.2.2) = (ansS uu q).1.map (·.2.2) := by
   unfold ansS
   by_cases c : q.1 < 0
   ·rw [if_pos c, if_pos c]; exact ⟨rfl, e⟩
   ·rw [if_neg c, if_neg c]
    have g : (ss[q.1.toNat]?).map (·.2.2) = (uu[q.1.toNat]?).map (·.2.2) := by rw [← List.getElem?_map, ← List.getElem?_map, e]
    cases hs : ss[q.1.toNat]? with
    | none =>
     rw [hs] at g
     cases hu : uu[q.1.toNat]? with
     | none => exact ⟨rfl, e⟩
     | some u => rw [hu] at g; cases g
    | some s =>
     rw [hs] at g
     cases hu : uu[q.1.toNat]? with
     | none => rw [hu] at g; cases g
     | some u =>
      rw [hu] at g
      have g : s.2.2 = u.2.2 := by simpa using g
      simp only
      rw [g]
      exact ⟨rfl, by rw [List.map_set, List.map_set, e]⟩
  obtain ⟨h1, h2⟩ := ansL_same (qs := qs) one.2
  simp only [ansL]
  exact ⟨by rw [one.1, h1], h2⟩
end Gt
namespace Gt
open Go Gx
theorem encI_one (x : Int) : one (encI x) = true := rfl
def firstC (but : List Int) : List Int → Int
 | [] => 0
 | c :: cs => if c = 0 ∨ c ∈ but then firstC but cs else c
theorem firstC_skip {but cs : List Int} {x : Int} (h : x = 0 ∨ x ∈ but) : firstC but (x :: cs) = firstC but cs := if_pos h
theorem firstC_hit {but cs : List Int} {x : Int} (h : ¬ (x = 0 ∨ x ∈ but)) : firstC but (x :: cs) = x := if_neg h
def goodC (cs : List Int) : Nat := cs.countP (· == 0)
theorem may_spec9 (k : Nat) (D : CallF) (n : Int) (h : AHeap) : fan_may k D n h = some (decide (1 ≤ n ∧ n ≤ 255), h) := by
 simp only [fan_may]
 by_cases c : 1 ≤ n
 ·rw [if_pos (by simpa using c)]; simp [c]
 ·rw [if_neg (by simpa using c)]; simp; omega
section
variable {k : Nat} {D : CallF}
theorem codes_spec {h : AHeap} {sl : Slc} {xs : List Rp} (R : RowW 3 encP h sl xs) (hl : xs.length ≤ 1048576) (hk : xs.length < k) : Gx.Wp (fan_codes k D sl h) fun z => Keeps h z.2 ∧ Acc encI 27 h.next z.2 z.1 (xs.map (·.1)) := by
 simp only [fan_codes]
 refine Gx.Wp.jn fun j hj => ?_
 unfold fan_codes_l0
 obtain ⟨bot, eb⟩ := iterK_of (fun _ _ _ _ _ => none) (fan_codes_l0b k D j) (show xs.length + 1 ≤ k by omega)
 rw [eb, R.len]
 have loop : ∀ (d i : Nat) (o : Slc) (h' : AHeap), i + d = xs.length → Keeps h h' → Acc encI 27 h.next h' o ((xs.take i).map (·.1)) → Gx.Wp (iterK bot (d + 1) (fan_codes_l0b k D j) o sl (xs.length : Int) (i : Int) h') fun z => Keeps h z.2 ∧ Acc encI 27 h.next z.2 z.1 (xs.map (·.1)) := fun d => by
  induction d with
  | zero =>
   intro i o h' hd kp A
   obtain rfl : i = xs.length := by omega
   rw [List.take_length] at A
   rw [iterK_s]; simp only [fan_codes_l0b]
   subst hj
   exact Gx.Wp.ifn (by simp) (Gx.Wp.of ⟨kp, A⟩)
  | succ d ih =>
   intro i o h' hd kp A
   rw [iterK_s]; simp only [fan_codes_l0b]
   have np := kp.nx
   obtain ⟨x, hx⟩ := isome (l := xs) (i := i) (by omega)
   obtain ⟨p, b1, b2, _, _⟩ := (R.keeps kp).ld encP_len (by decide) hx
   refine Gx.Wp.ifp (by simp; omega) (Gx.Wp.bnd b1 (Gx.Wp.bnd b2 (Gx.Wp.bnd rfl (Gx.Wp.new fun H1 k1 n1 g1 => Gx.Wp.stL (sp := none) g1 rfl rfl rfl (by decide) fun H2 c2 n2 g2 => Gx.Wp.bnd (sldI_at g2 rfl) (Gx.Wp.newE fun H3 e3 k3 n3 g3 => ?_)))))
   have k2 : Keeps h' H2 := Chg.beh (T := (· = h'.next)) k1 c2 fun y hy q => by omega
   obtain ⟨s', h9, a1, a2, A', c9, d9⟩ := Acc.pushK (A.keeps k2) encI_one x.1 (bytes := 8) e3 (by simp; omega) (by decide) (by omega)
   refine Gx.Wp.bnd a1 (Gx.Wp.bnd a2 ?_)
   rw [Gx.w1 (by omega)]
   refine ih (i + 1) s' h9 (by omega) (Chg.beh (kp.trans k2) c9 fun y hy ⟨a, ha, q⟩ => by have := (A.lt a ha).2; omega) ?_
   rw [show xs.take (i + 1) = xs.take i ++ [x] by rw [List.take_add_one, hx]; rfl, List.map_append]
   exact A'
 exact loop xs.length 0 _ h (by omega) (.refl _ _) (Acc.nil _ _ _ _)
theorem good_spec {h : AHeap} {sl : Slc} {cs : List Int} (R : Row encI h sl cs) (hl : cs.length < 9223372036854775807) (hk : cs.length < k) : fan_good k D sl h = some ((goodC cs : Int), h) := by
 simp only [fan_good]
 refine jn ?_
 unfold fan_good_l0
 generalize hj : (fun (n1 : Int) (h2 : AHeap) => some (n1, h2)) = j
 obtain ⟨bot, eb⟩ := iterK_of (fun _ _ _ _ _ => none) (fan_good_l0b k D j) (show cs.length + 1 ≤ k by omega)
 rw [eb, R.1]
 have loop : ∀ (d i : Nat), i + d = cs.length → iterK bot (d + 1) (fan_good_l0b k D j) (goodC (cs.take i) : Int) sl (cs.length : Int) (i : Int) h = some ((goodC cs : Int), h) := fun d => by
  induction d with
  | zero =>
   intro i hd
   obtain rfl : i = cs.length := by omega
   rw [iterK_s, List.take_length]; simp only [fan_good_l0b]
   subst hj
   exact ifn (by simp) rfl
  | succ d ih =>
   intro i hd
   rw [iterK_s]; simp only [fan_good_l0b]
   obtain ⟨x, hx⟩ := isome (l := cs) (i := i) (by omega)
   obtain ⟨p, b1, b2⟩ := R.ldI hx
   have e : cs.take (i + 1) = cs.take i ++ [x] := by rw [List.take_add_one, hx]; rfl
   have gl : goodC (cs.take i) ≤ i := Nat.le_trans (List.countP_le_length) (by simp; omega)
   have := ih (i + 1) (by omega)
   refine ifp (by simp; omega) (jn (bnd b1 (bnd b2 ?_)))
   rw [e] at this
   by_cases c : x = 0
   ·refine ifp (by simpa using c) ?_
    dsimp only
    rw [Gx.w1 (by omega), Gx.w1 (by omega)]
    have g : goodC (cs.take i ++ [x]) = goodC (cs.take i) + 1 := by simp [goodC, c]
    rw [g] at this; exact this
   ·refine ifn (by simpa using c) ?_
    dsimp only
    rw [Gx.w1 (by omega)]
    have g : goodC (cs.take i ++ [x]) = goodC (cs.take i) := by simp [goodC, c]
    rw [g] at this; exact this
 have := loop cs.length 0 (by omega)
 simpa [goodC] using this
theorem contains_spec {h : AHeap} {sl : Slc} {cs : List Int} (R : Row encI h sl cs) (v : Int) (hl : cs.length < 9223372036854775807) (hk : cs.length < k) : slices_Contains_api_Code_api_Code k D sl v h = some (decide (v ∈ cs), h) := by
 have idx : ∃ r : Int, slices_Index_api_Code_api_Code k D sl v h = some (r, h) ∧ decide (r ≥ 0) = decide (v ∈ cs) := by
  simp only [slices_Index_api_Code_api_Code, joinK]
  unfold slices_Index_api_Code_api_Code_l0
  generalize hj : (fun (h1 : AHeap) => some ((-1 : Int), h1)) = j
  obtain ⟨bot, eb⟩ := iterK_of (fun _ _ _ _ _ => none) (slices_Index_api_Code_api_Code_l0b k D j) (show cs.length + 1 ≤ k by omega)
  rw [eb, R.1]
  have loop : ∀ (d i : Nat), i + d = cs.length → (∀ x ∈ cs.take i, x ≠ v) → ∃ r : Int, iterK bot (d + 1) (slices_Index_api_Code_api_Code_l0b k D j) sl v (cs.length : Int) (i : Int) h = some (r, h) ∧ decide (r ≥ 0) = decide (v ∈ cs) := fun d => by
   induction d with
   | zero =>
    intro i hd no
    obtain rfl : i = cs.length := by omega
    rw [List.take_length] at no
    rw [iterK_s]; simp only [slices_Index_api_Code_api_Code_l0b]
    subst hj
    refine ⟨-1, ifn (by simp) rfl, ?_⟩
    rw [decide_eq_false (by omega), decide_eq_false (fun z => no v z rfl)]
   | succ d ih =>
    intro i hd no
    rw [iterK_s]; simp only [slices_Index_api_Code_api_Code_l0b]
    obtain ⟨x, hx⟩ := isome (l := cs) (i := i) (by omega)
    obtain ⟨p, b1, b2⟩ := R.ldI hx
    by_cases c : v = x
    ·refine ⟨i, ifp (by simp; omega) (bnd b1 (bnd b2 (ifp (by simpa using c) rfl))), ?_⟩
     rw [decide_eq_true (by omega), decide_eq_true (c ▸ mem_of hx)]
    ·obtain ⟨r, hr, hd'⟩ := ih (i + 1) (by omega) (fun y hy => by
      rw [show cs.take (i + 1) = cs.take i ++ [x] by rw [List.take_add_one, hx]; rfl] at hy
      rcases List.mem_append.1 hy with hy | hy
      ·exact no y hy
      ·simp at hy; subst hy; exact fun z => c z.symm)
     refine ⟨r, ifp (by simp; omega) (bnd b1 (bnd b2 (ifn (by simpa using c) ?_))), hd'⟩
     rw [Gx.w1 (by omega)]; exact hr
  exact loop cs.length 0 (by omega) (by simp)
 obtain ⟨r, e, d⟩ := idx
 simp only [slices_Contains_api_Code_api_Code]
 rw [e]
 show some (decide (r ≥ 0), h) = _
 rw [d]
theorem first_spec {h : AHeap} {sl bl' : Slc} {cs but : List Int} (R : Row encI h sl cs) (B : Row encI h bl' but) (hl : cs.length < 9223372036854775807) (hk : cs.length < k) (hl2 : but.length < 9223372036854775807) (hk2 : but.length < k) : fan_First k D sl bl' h = some (firstC but cs, h) := by
 simp only [fan_First, joinK]
 unfold fan_First_l0
 generalize hj : (fun (h1 : AHeap) => some ((0 : Int), h1)) = j
 obtain ⟨bot, eb⟩ := iterK_of (fun _ _ _ _ _ => none) (fan_First_l0b k D j) (show cs.length + 1 ≤ k by omega)
 rw [eb, R.1]
 have loop : ∀ (d i : Nat), i + d = cs.length → iterK bot (d + 1) (fan_First_l0b k D j) bl' sl (cs.length : Int) (i : Int) h = some (firstC but (cs.drop i), h) := fun d => by
  induction d with
  | zero =>
   intro i hd
   obtain rfl : i = cs.length := by omega
   rw [iterK_s, List.drop_length]; simp only [fan_First_l0b]
   subst hj
   exact ifn (by simp) rfl
  | succ d ih =>
   intro i hd
   rw [iterK_s]; simp only [fan_First_l0b]
   obtain ⟨x, hx⟩ := isome (l := cs) (i := i) (by omega)
   obtain ⟨p, b1, b2⟩ := R.ldI hx
   refine ifp (by simp; omega) (bnd b1 (bnd b2 (jn ?_)))
   rw [dropc hx]
   by_cases c : x = 0
   ·rw [firstC_skip (.inl c)]
    refine ifn (by simp [c]) (ifn (fun z => by cases z) ?_)
    rw [Gx.w1 (by omega)]; exact ih (i + 1) (by omega)
   ·refine ifp (by simp [c]) (bnd (contains_spec B x hl2 hk2) ?_)
    by_cases c2 : x ∈ but
    ·rw [firstC_skip (.inr c2)]
     refine ifn (by simp [c2]) ?_
     rw [Gx.w1 (by omega)]; exact ih (i + 1) (by omega)
    ·rw [firstC_hit (fun z => z.elim c c2)]
     exact ifp (by simp [c2]) rfl
 exact loop cs.length 0 (by omega)
end
end Gt
namespace Gt
open Go Gx
theorem splice_app {a b c d : List Value} (h : d.length = b.length) : splice (a ++ b ++ c) a.length d = a ++ d ++ c := by
 unfold splice
 have e1 : (a ++ b ++ c).take a.length = a := by rw [List.append_assoc, List.take_left']; rfl
 have e2 : (a ++ b ++ c).drop (a.length + d.length) = c := by rw [show a.length + d.length = (a ++ b).length by simp [h], List.drop_left']; rfl
 rw [e1, e2]
theorem split_at {xs : List Rq} {i : Nat} {x : Rq} (hx : xs[i]? = some x) : xs = xs.take i ++ x :: xs.drop (i + 1) := by rw [← dropc hx, List.take_append_drop]
theorem flat_at {xs : List Rq} {i : Nat} {x : Rq} (hx : xs[i]? = some x) : xs.flatMap encQ = (xs.take i).flatMap encQ ++ encQ x ++ (xs.drop (i + 1)).flatMap encQ := by
 conv => lhs; rw [split_at hx]
 rw [List.flatMap_append, List.flatMap_cons, List.append_assoc]
theorem flat_len {xs : List Rq} {i : Nat} (hi : i ≤ xs.length) : ((xs.take i).flatMap encQ).length = i * 4 := by
 rw [flatW_length encQ_len, List.length_take, Nat.min_eq_left hi]
theorem set_split {xs : List Rq} {i : Nat} {x y : Rq} (hx : xs[i]? = some x) : (xs.set i y).flatMap encQ = (xs.take i).flatMap encQ ++ encQ y ++ (xs.drop (i + 1)).flatMap encQ := by
 have hi := (List.getElem?_eq_some_iff.1 hx).1
 rw [flat_at (xs := xs.set i y) (i := i) (x := y) (by rw [List.getElem?_set]; simp [hi]), List.take_set_of_le (Nat.le_refl _), List.drop_set_of_lt (Nat.lt_succ_self _)]
theorem stQ {h : AHeap} {b i : Nat} {xs : List Rq} {x y : Rq} (hb : h.get b = some (.cells (xs.flatMap encQ) 51 true 0)) (hx : xs[i]? = some x) :
  Gx.stL 4 ⟨b, i * 4, none⟩ (encQ y) h = some (h.set b (.cells ((xs.set i y).flatMap encQ) 51 true 0)) := by
 have hi := (List.getElem?_eq_some_iff.1 hx).1
 have := stL_part (cs := encQ y) (o := i * 4) (sp := none) hb (by simp [encQ]) (by rw [flatW_length encQ_len, encQ_len]; omega) (encQ_one y)
 rw [encQ_len] at this
 rw [this]
 congr 3
 rw [flat_at hx, set_split hx]
 have := splice_app (a := (xs.take i).flatMap encQ) (b := encQ x) (c := (xs.drop (i + 1)).flatMap encQ) (d := encQ y) rfl
 rw [flat_len (Nat.le_of_lt hi)] at this
 exact this
theorem stQ1 {h : AHeap} {b i j : Nat} {xs : List Rq} {x y : Rq} {v : Value} (hb : h.get b = some (.cells (xs.flatMap encQ) 51 true 0)) (hx : xs[i]? = some x) (hj : j < 4) (hv : one v = true) (hy : (encQ x).set j v = encQ y) :
  Gx.st1 ⟨b, i * 4 + j, none⟩ v h = some (h.set b (.cells ((xs.set i y).flatMap encQ) 51 true 0)) := by
 have hi := (List.getElem?_eq_some_iff.1 hx).1
 rw [st1_sb hb (by rw [flatW_length encQ_len]; omega) hv]
 congr 3
 rw [flat_at hx, set_split hx, ← hy, List.set_append_left, List.set_append_right, flat_len (Nat.le_of_lt hi)]
 ·simp
 ·rw [flat_len (Nat.le_of_lt hi)]; omega
 ·rw [List.length_append, flat_len (Nat.le_of_lt hi), encQ_len]; omega
theorem zerosQ (n : Nat) : zerosL n [.int .i64 0, .int .i64 0, .string ⟨#[]⟩, .string ⟨#[]⟩] = (List.replicate n q0).flatMap encQ := by
 show (List.replicate n [_, _, _, _]).flatten = _
 rw [List.flatMap, List.map_replicate]; rfl
theorem map_set {α : Type} (n i : Nat) (f : Nat → α) (v : α) : ((List.range n).map f).set i v = (List.range n).map fun j => if j = i then v else f j := by
 apply List.ext_getElem?
 intro j
 rw [List.getElem?_set]
 simp only [List.getElem?_map, List.length_map, List.length_range]
 by_cases hj : j < n
 ·rw [List.getElem?_range hj]
  by_cases e : i = j
  ·subst e; simp [hj]
  ·have : ¬ j = i := fun z => e z.symm
   simp [e, this]
 ·have : (List.range n)[j]? = none := List.getElem?_eq_none (by simp; omega)
  rw [this]
  by_cases e : i = j
  ·subst e; simp [hj]
  ·simp [e]
def may (n : Int) : Bool := decide (1 ≤ n ∧ n ≤ 255)
def askL (n : Int) (kind : Int) (name data : ByteArray) : List Rq := if may n = true then (List.range n.toNat).map (fun i : Nat => ((i : Int), kind, name, data)) else []
section
variable {k : Nat} {D : CallF}
theorem ask_spec {h : AHeap} (n kind : Int) (name data : ByteArray) (hk : 256 < k) : Gx.Wp (fan_ask k D n (0, kind, name, data) h) fun z => Keeps h z.2 ∧
  ((may n = false ∧ z.1 = nils) ∨ (may n = true ∧ ∃ b, z.1 = ⟨some ⟨b, 0, some 0⟩, n.toNat, n.toNat⟩ ∧ h.next ≤ b ∧ b < z.2.next ∧ z.2.get b = some (.cells ((askL n kind name data).flatMap encQ) 51 true 0))) := by
 simp only [fan_ask]
 refine Gx.Wp.new fun H1 k1 n1 g1 => Gx.Wp.bnd (may_spec9 k D n H1) ?_
 by_cases c : 1 ≤ n ∧ n ≤ 255
 ·rw [decide_eq_true c]
  have hm : may n = true := decide_eq_true c
  obtain ⟨m, rfl⟩ : ∃ m : Nat, n = (m : Int) := ⟨n.toNat, by omega⟩
  refine Gx.Wp.ifn (fun z => by cases z) (Gx.Wp.ifp ⟨by omega, by omega, by omega, by omega⟩ (Gx.Wp.new fun H3 k3 n3 g3 => Gx.Wp.jn fun j hj => ?_))
  rw [zerosQ, Int.toNat_natCast] at g3
  unfold fan_ask_l0
  obtain ⟨bot, eb⟩ := iterK_of (fun _ _ _ _ _ => none) (fan_ask_l0b k D j) (show m + 1 ≤ k by omega)
  rw [eb, Int.toNat_natCast]
  dsimp only at n3 g3 k3 ⊢
  have q3 := k3.got (by omega) g1
  have loop : ∀ (d i : Nat) (h' : AHeap), i + d = m → Chg (· = H1.next) H3 h' → h'.next = H3.next → h'.get H1.next = some (.cells (((List.range m).map fun j => if j < i then ((j : Int), kind, name, data) else q0).flatMap encQ) 51 true 0) →
    Gx.Wp (iterK bot (d + 1) (fan_ask_l0b k D j) (some ⟨h.next, 0, none⟩) ⟨some ⟨H1.next, 0, some 0⟩, m, m⟩ (m : Int) (i : Int) h') fun z => Keeps h z.2 ∧ ((may (m : Int) = false ∧ z.1 = nils) ∨ (may (m : Int) = true ∧ ∃ b, z.1 = ⟨some ⟨b, 0, some 0⟩, m, m⟩ ∧ h.next ≤ b ∧ b < z.2.next ∧ z.2.get b = some (.cells ((askL (m : Int) kind name data).flatMap encQ) 51 true 0))) := fun d => by
   induction d with
   | zero =>
    intro i h' hd c' n' g'
    obtain rfl : i = m := by omega
    rw [iterK_s]; simp only [fan_ask_l0b]
    subst hj
    refine Gx.Wp.ifn (by simp) (Gx.Wp.of ⟨Chg.beh (T := (· = H1.next)) (k1.trans k3) c' fun y hy q => by omega, .inr ⟨hm, H1.next, rfl, by omega, by dsimp only; omega, ?_⟩⟩)
    rw [g']
    unfold askL
    rw [if_pos hm, Int.toNat_natCast]
    congr 3
    refine List.map_congr_left fun j hj => ?_
    rw [if_pos (by simpa using hj)]
   | succ d ih =>
    intro i h' hd c' n' g'
    rw [iterK_s]; simp only [fan_ask_l0b]
    have q' := c'.got (by omega) (by omega) q3
    have hix : ((List.range m).map fun j => if j < i then ((j : Int), kind, name, data) else q0)[i]? = some q0 := by
     rw [List.getElem?_map, List.getElem?_range (by omega)]; simp
    have ix : Gx.idxL 4 (⟨some ⟨H1.next, 0, some 0⟩, m, m⟩ : Slc) (i : Int) = some ⟨H1.next, i * 4, none⟩ := by
     simp only [idxL]
     rw [if_pos (by omega)]
     simp
    refine Gx.Wp.ifp (by simp; omega) (Gx.Wp.bnd rfl (Gx.Wp.bnd (sldA_at q' rfl) (Gx.Wp.bnd rfl (Gx.Wp.bnd ix ?_))))
    refine Gx.Wp.bnd (stQ (y := (0, kind, name, data)) g' hix) (Gx.Wp.bnd ix ?_)
    have hix2 : (((List.range m).map fun j => if j < i then ((j : Int), kind, name, data) else q0).set i (0, kind, name, data))[i]? = some (0, kind, name, data) := by
     rw [List.getElem?_set]; simp; omega
    refine Gx.Wp.bnd (stQ1 (j := 0) (y := ((i : Int), kind, name, data)) (sset_get _ _ _) hix2 (by decide) rfl rfl) ?_
    rw [Gx.w1 (by omega)]
    refine ih (i + 1) _ (by omega) (c'.trans ((Chg.set (S := (· = H1.next)) (.inr rfl)).trans (Chg.set (S := (· = H1.next)) (.inr rfl)))) n' ?_
    rw [sset_get]
    congr 3
    rw [List.set_set, map_set]
    refine List.map_congr_left fun j hj => ?_
    by_cases e : j = i
    ·subst e; simp
    ·by_cases e2 : j < i
     ·rw [if_neg e, if_pos e2, if_pos (by omega)]
     ·rw [if_neg e, if_neg e2, if_neg (by omega)]
  refine loop m 0 H3 (by omega) (Chg.refl _ _) rfl ?_
  rw [g3]
  congr 3
  simp only [Nat.not_lt_zero, if_false]
  rw [List.map_const', List.length_range]
 ·rw [decide_eq_false c]
  exact Gx.Wp.ifp rfl (Gx.Wp.of ⟨k1, .inl ⟨decide_eq_false c, rfl⟩⟩)
end
end Gt
namespace Gt
open Go Gx
def ThenC (L : Nat → CallF) (N c ib : Nat) (g : Nat) (x y : Array Value) (len : Nat) (K : List Int → Prg) (O : Nat → Prop) (h : AHeap) : Prop :=
 ∀ n, c ≤ n → ∀ (P : Nat → Prop) (h' : AHeap) (m st : Nat) (q : Rq), (∀ y, O y → P y) → Agr (But O ib) h h' → (∀ y, P y → y < m) → m ≤ h'.next → P ib → h'.get ib = some (.cells (ioC q .nilFunc false 0 0 nils nils st) 89 true 0) →
  ∀ (cs : List Int) (sl : Slc), Row encI h' sl cs → cs.length = len → (∀ a, sl.a = some a → m ≤ a.block ∧ a.block < h'.next) →
  Does (L n) g x y [.slice sl.a sl.len sl.cap] h' fun h'' => Chg (In P m) h' h'' ∧ IoQ L N ib (K cs) st (Gr P m h'') h''
def codesY (ys : List Ry) : List Int := ys.map (·.1)
theorem say_codes {h : AHeap} {xs : List Rp} {ys : List Ry} (S : Say h xs ys) : xs.map (·.1) = codesY ys := by
 apply List.ext_getElem?
 intro i
 simp only [codesY, List.getElem?_map]
 by_cases hi : i < xs.length
 ·obtain ⟨x, hx⟩ := isome hi
  obtain ⟨y, hy⟩ := isome (l := ys) (i := i) (by rw [← S.1]; exact hi)
  rw [hx, hy]
  simp [(S.2 i x y hx hy).1]
 ·rw [List.getElem?_eq_none (by omega), List.getElem?_eq_none (by rw [← S.1]; omega)]; rfl
section
variable {k N c ib b len : Nat} {g : Nat} {x y : Array Value} {K : List Int → Prg} {O : Nat → Prop} {h : AHeap}
theorem then_codes {X : Slc → Option Addr → AHeap → Nat → Option (Unit × AHeap)} {gn : Nat} (hgn : gn ∈ closL) (hX : ∀ (n : Nat) (sl : Slc) (a : Option Addr) (h : AHeap), ∀ (R : Type) (κ : Value → AHeap → Option R), lvl k (n + 1) R gn ([.slice sl.a sl.len sl.cap] ++ [.pointer a]) h κ = (X sl a h n).bind fun r => κ (.tuple ⟨[]⟩) r.2)
  (hW : ∀ (n : Nat) (sl : Slc) (h' : AHeap) (Q : Unit × AHeap → Prop) (s2 : Slc) (h2 : AHeap), fan_codes k (lvl k n) sl h' = some (s2, h2) → Keeps h' h2 → h'.get b = some (.cells [.func (.func g) x y] 93 true 0) → b < h'.next →
   (∀ h3, Does (lvl k n) g x y [.slice s2.a s2.len s2.cap] h2 (fun h'' => h'' = h3) → Q ((), h3)) → (∃ h3, Does (lvl k n) g x y [.slice s2.a s2.len s2.cap] h2 (fun h'' => h'' = h3)) → Gx.Wp (X sl (some ⟨b, 0, none⟩) h' n) Q)
  (T : ThenC (lvl k) N c ib g x y len K O h) (ob : But O ib b) (hb : h.get b = some (.cells [.func (.func g) x y] 93 true 0)) (hl : len ≤ 1048576) (hk : len < k) :
  ThenP (lvl k) N (c + 1) ib gn ⟨[]⟩ ⟨[ptr b]⟩ len (fun ys => K (codesY ys)) O h := by
 intro n hn P h' m st q sub ag lt hm hP hio ys xs sl R S hys ow so sm _
 obtain ⟨n', rfl⟩ : ∃ n', n = n' + 1 := ⟨n - 1, by omega⟩
 have lb := lt _ (sub _ ob.1)
 have hb' := (ag.eq _ ob).trans hb
 have lx : xs.length = len := by rw [S.1]; exact hys
 refine Does.of (X := X sl (some ⟨b, 0, none⟩) h' n') hgn (fun R κ => hX n' sl _ h' R κ) ?_
 obtain ⟨z, hz, k1, A⟩ := codes_spec (k := k) (D := lvl k n') R (by omega) (by omega)
 rw [say_codes S] at A
 have n1 := k1.nx
 have li := lt _ hP
 have d := T n' (by omega) P z.2 m st q sub (ag.trans (chg_agr k1 (fun y o => by have := lt _ (sub _ o.1); omega) fun y o f => f)) lt (by omega) hP (k1.got (by omega) hio) (codesY ys) z.1 A.row (by simp [codesY, hys]) (fun a ha => ⟨by have := (A.lt a ha).2; omega, (A.lt a ha).1⟩)
 obtain ⟨hg, h3, qq, e⟩ := d
 refine hW n' sl h' _ z.1 z.2 hz k1 hb' (by omega) (fun h4 d4 => ?_) ⟨h3, hg, h3, rfl, e⟩
 obtain ⟨_, h5, rfl, e5⟩ := d4
 have : h3 = h5 := by
  have := (e AHeap fun _ h => some h).symm.trans (e5 AHeap fun _ h => some h)
  exact Option.some.inj this
 subst this
 obtain ⟨c3, i3⟩ := qq
 exact ⟨(Chg.keeps k1).trans c3, i3⟩
theorem run_does {D : CallF} {g : Nat} {x y : Array Value} {args : List Value} {h : AHeap} {es : List Ent} (hes : apartC es = true) {Q : Unit × AHeap → Prop} (w : ∃ h3, Does D g x y args h fun h'' => h'' = h3) (k : ∀ h3, Does D g x y args h (fun h'' => h'' = h3) → Q ((), h3)) :
  Gx.Wp (callD (mkC D es) (.func (.func g) x y) args h fun _ h8 => some ((), h8)) Q := by
 obtain ⟨h3, d⟩ := w
 exact Does.wp d hes fun h4 e4 => by subst e4; exact Gx.Wp.of (k _ d)
theorem then123 (T : ThenC (lvl k) N c ib g x y len K O h) (ob : But O ib b) (hb : h.get b = some (.cells [.func (.func g) x y] 93 true 0)) (hl : len ≤ 1048576) (hk : len < k) : ThenP (lvl k) N (c + 1) ib 68 ⟨[]⟩ ⟨[ptr b]⟩ len (fun ys => K (codesY ys)) O h := by
 refine then_codes (X := fun sl a h n => fan_Puts_1 k (lvl k n) sl a h) (by decide) (fun n sl a h R κ => rfl) (fun n sl h' Q s2 h2 e k1 hb' lb q w => ?_) T ob hb hl hk
 simp only [fan_Puts_1]
 refine Gx.Wp.bnd e (Gx.Wp.bnd rfl (Gx.Wp.bnd (ldV_at (k1.got lb hb') rfl) (Gx.Wp.gp (ssw1 (bnd rfl (bnd (ldV_at hb' rfl) rfl))) ?_)))
 exact run_does (by kernel_rfl) w q
theorem then126 (T : ThenC (lvl k) N c ib g x y len K O h) (ob : But O ib b) (hb : h.get b = some (.cells [.func (.func g) x y] 93 true 0)) (hl : len ≤ 1048576) (hk : len < k) : ThenP (lvl k) N (c + 1) ib 101 ⟨[]⟩ ⟨[ptr b]⟩ len (fun ys => K (codesY ys)) O h := by
 refine then_codes (X := fun sl a h n => fan_Dels_1 k (lvl k n) sl a h) (by decide) (fun n sl a h R κ => rfl) (fun n sl h' Q s2 h2 e k1 hb' lb q w => ?_) T ob hb hl hk
 simp only [fan_Dels_1]
 refine Gx.Wp.bnd e (Gx.Wp.bnd rfl (Gx.Wp.bnd (ldV_at (k1.got lb hb') rfl) (Gx.Wp.gp (ssw1 (bnd rfl (bnd (ldV_at hb' rfl) rfl))) ?_)))
 exact run_does (by kernel_rfl) w q
theorem then86 {b1 : Nat} (ob : But O ib b1) (hb : h.get b1 = some (.cells [ptr ib] 34 true 0)) (hl : len ≤ 1048576) (hk : len < k) : ThenC (lvl k) N 1 ib 56 ⟨[]⟩ ⟨[ptr b1]⟩ len (fun cs => finP ⟨firstC [] cs, goodC cs, [], []⟩) O h := by
 intro n hn P h' m st q sub ag lt hm hP hio cs sl R hcs ow
 obtain ⟨n', rfl⟩ : ∃ n', n = n' + 1 := ⟨n - 1, by omega⟩
 have lb := lt _ (sub _ ob.1)
 have li := lt _ hP
 have hb' := (ag.eq _ ob).trans hb
 refine Does.of (X := fan_PutJob_1_1 k (lvl k n') sl (some ⟨b1, 0, none⟩) h') (by decide) (fun R κ => rfl) ?_
 simp only [fan_PutJob_1_1]
 have hnil : Row encI h' (⟨none, 0, 0⟩ : Slc) [] := ⟨rfl, fun i x hx => by simp at hx⟩
 refine Gx.Wp.bnd (first_spec R hnil (by omega) (by omega) (by decide) (by show 0 < k; omega)) (Gx.Wp.bnd (good_spec R (by omega) (by omega)) (Gx.Wp.bnd rfl (Gx.Wp.bnd (ldP_at hb' rfl) (Gx.Wp.gp ?_ ?_))))
 ·intro H hH
  simp at hH
  rcases hH with rfl | rfl <;> exact bnd rfl (bnd (ldP_at hb' rfl) rfl)
 ·refine Gx.Wp.call (End_spec (lvl k n') hio (by dsimp only; omega)) fun z hz => Gx.Wp.of ?_
  obtain ⟨c1, g1⟩ := hz
  exact ⟨c1.wk fun y _ q => .inl (q ▸ hP), fun _ _ => trivial, .inl ⟨q, nils, nils, g1, ⟨rfl, fun i x hx => by simp at hx⟩, ⟨rfl, fun i x hx => by simp at hx⟩, (fun a ha => by cases ha), (fun a ha => by cases ha)⟩⟩
end
end Gt
namespace Gt
open Go Gx
def putsL (name : ByteArray) (data : List ByteArray) : List Rq := if may data.length = true then (List.range data.length).map (fun i : Nat => ((i : Int), (1 : Int), name, (data[i]?).getD nob)) else []
theorem putsL_len {name : ByteArray} {data : List ByteArray} : (putsL name data).length ≤ 255 := by
 unfold putsL
 split
 ·rename_i h
  have : 1 ≤ (data.length : Int) ∧ (data.length : Int) ≤ 255 := by simpa [may] using h
  simp; omega
 ·exact Nat.zero_le _
theorem askL_len {n kind : Int} {name data : ByteArray} : (askL n kind name data).length ≤ 255 := by
 unfold askL
 split
 ·rename_i h
  have : 1 ≤ n ∧ n ≤ 255 := by simpa [may] using h
  simp; omega
 ·exact Nat.zero_le _
section
variable {k N c ib : Nat} {g : Nat} {x y : Array Value} {K : List Int → Prg} {O : Nat → Prop} {h : AHeap}
theorem ThenC.frame {len : Nat} {L : Nat → CallF} {P : Nat → Prop} {h2 : AHeap} (T : ThenC L N c ib g x y len K O h) (sub : ∀ y, O y → P y) (a : Agr (But O ib) h h2) : ThenC L N c ib g x y len K P h2 :=
 fun n hn P' h' m st q s ag => T n hn P' h' m st q (fun y o => s y (sub y o)) (a.trans (ag.wk fun y o => ⟨sub y o.1, o.2⟩))
theorem ThenC.none {len : Nat} {L : Nat → CallF} (T : ∀ len, ThenC L N c ib g x y len K O h) : ThenC L N c ib g x y len K O h := T len
theorem Puts_io {n st m : Nat} {q : Rq} {name : ByteArray} {dsl : Slc} {data : List ByteArray} (hN : c + 4 ≤ N) (hn : c + 3 ≤ n) (hk : 1000 < k) (T : ThenC (lvl k) N c ib g x y (putsL name data).length K O h) (hO : O ib) (lt : ∀ y, O y → y < m) (hm : m ≤ h.next)
  (hio : h.get ib = some (.cells (ioC q .nilFunc false 0 0 nils nils st) 89 true 0)) (R : Row encS h dsl data) :
  Gx.Wp (fan_Puts k (lvl k n) (some ⟨ib, 0, none⟩) name dsl (.func (.func g) x y) h) fun z => Chg (In O m) h z.2 ∧ IoQ (lvl k) N ib (askAll (putsL name data) [] fun ys => K (codesY ys)) st (Gr O m z.2) z.2 := by
 simp only [fan_Puts]
 have ec : (Value.func (.func g) x y).cells.toList = [.func (.func g) x y] := rfl
 rw [ec]
 have li := lt _ hO
 refine Gx.Wp.new fun H1 k1 n1 g1 => Gx.Wp.call (ask_spec _ 1 name ⟨#[]⟩ (by omega)) fun r2 q2 => ?_
 obtain ⟨k2, q2⟩ := q2
 have n2 := k2.nx
 rw [R.1] at q2
 have fin : ∀ (l : Slc) (H : AHeap), Keeps H1 H → RowW 4 encQ H l (putsL name data) → Gx.Wp ((port_IO_All k (lvl k n) (some ⟨ib, 0, none⟩) l (.func (.func 68) ⟨[]⟩ ⟨[.pointer (some ⟨h.next, 0, none⟩)]⟩) H).bind fun r8 => some ((), r8.2)) fun z => Chg (In O m) h z.2 ∧ IoQ (lvl k) N ib (askAll (putsL name data) [] fun ys => K (codesY ys)) st (Gr O m z.2) z.2 := by
  intro l H kH RH
  have nH := kH.nx
  have kk : Keeps h H := k1.trans kH
  have T2 : ThenC (lvl k) N c ib g x y (putsL name data).length K (fun y => O y ∨ y = h.next) H := T.frame (fun y o => .inl o) (chg_agr kk (fun y o => by have := lt _ o.1; omega) fun y o f => f)
  have hl : (putsL name data).length ≤ 255 := putsL_len
  have A := All_io (k := k) (N := N) (c := c + 1) (n := n) (qs := putsL name data) (l := l) (O := fun y => O y ∨ y = h.next) (m := H.next) (by omega) (by omega) (then123 T2 ⟨.inr rfl, by omega⟩ (kH.got (by omega) g1) (by omega) (by omega)) (.inl hO) (fun y o => by rcases o with o | o; have := lt y o; omega; omega) (Nat.le_refl _) (kk.got (by omega) hio) RH (by omega)
  refine Gx.Wp.call A fun z hz => Gx.Wp.of ?_
  obtain ⟨cz, iz⟩ := hz
  have nz := cz.nx
  refine ⟨Chg.beh (Chg.keeps kk) cz fun y hy o => ?_, iz.mono fun y o => ?_⟩
  ·rcases o with (o | o) | o
   ·exact .inl o
   ·omega
   ·omega
  ·rcases o with (o | o) | o
   ·exact .inl o
   ·exact .inr ⟨by omega, by dsimp only; omega⟩
   ·exact .inr ⟨by omega, o.2⟩
 refine Gx.Wp.jn fun j7 hj => ?_
 unfold fan_Puts_l0
 rcases q2 with ⟨hm0, e2⟩ | ⟨hm1, b, e2, hb1, hb2, hb⟩
 ·rw [e2]
  obtain ⟨bot, eb⟩ := iterK_of (fun _ _ _ _ _ _ _ => none) (fan_Puts_l0b k (lvl k n) j7) (show 0 + 1 ≤ k by omega)
  rw [eb, iterK_s]; simp only [fan_Puts_l0b]
  subst hj
  have e0 : putsL name data = [] := by unfold putsL; rw [if_neg (by rw [hm0]; decide)]
  exact Gx.Wp.ifn (by decide) (fin nils r2.2 k2 (by rw [e0]; exact ⟨rfl, fun i x hx => by simp at hx⟩))
 ·have hmm : 1 ≤ (data.length : Int) ∧ (data.length : Int) ≤ 255 := by simpa [may] using hm1
  rw [Int.toNat_natCast] at e2
  rw [e2]
  obtain ⟨bot, eb⟩ := iterK_of (fun _ _ _ _ _ _ _ => none) (fan_Puts_l0b k (lvl k n) j7) (show data.length + 1 ≤ k by omega)
  rw [eb]
  have loop : ∀ (d i : Nat) (H : AHeap), i + d = data.length → Chg (· = b) r2.2 H → H.get b = some (.cells (((List.range data.length).map fun j : Nat => ((j : Int), (1 : Int), name, if j < i then (data[j]?).getD nob else nob)).flatMap encQ) 51 true 0) →
    Gx.Wp (iterK bot (d + 1) (fan_Puts_l0b k (lvl k n) j7) (some ⟨ib, 0, none⟩) dsl (some ⟨h.next, 0, none⟩) ⟨some ⟨b, 0, some 0⟩, data.length, data.length⟩ (data.length : Int) (i : Int) H) fun z => Chg (In O m) h z.2 ∧ IoQ (lvl k) N ib (askAll (putsL name data) [] fun ys => K (codesY ys)) st (Gr O m z.2) z.2 := fun d => by
   induction d with
   | zero =>
    intro i H hd cH gH
    obtain rfl : i = data.length := by omega
    rw [iterK_s]; simp only [fan_Puts_l0b]
    subst hj
    have e1 : ((List.range data.length).map fun j : Nat => ((j : Int), (1 : Int), name, if j < data.length then (data[j]?).getD nob else nob)) = putsL name data := by
     unfold putsL
     rw [if_pos hm1]
     refine List.map_congr_left fun j hj => ?_
     rw [if_pos (by simpa using hj)]
    rw [e1] at gH
    have hn := cH.nx
    have RQ := rowW_blk (cap := data.length) (sp := some 0) encQ_len gH (by omega) (Nat.le_refl _)
    rw [List.take_length] at RQ
    have lq : (putsL name data).length = data.length := by rw [← e1]; simp
    rw [lq] at RQ
    exact Gx.Wp.ifn (by simp) (fin _ H (Chg.beh (T := (· = b)) k2 cH fun y hy o => by omega) RQ)
   | succ d ih =>
    intro i H hd cH gH
    rw [iterK_s]; simp only [fan_Puts_l0b]
    have kk : Keeps h H := Chg.beh (T := (· = b)) (k1.trans k2) cH fun y hy o => by omega
    obtain ⟨dt, hdt⟩ := isome (l := data) (i := i) (by omega)
    obtain ⟨p, p1, p2⟩ := (Row.keeps R kk).ldS hdt
    have hix : ((List.range data.length).map fun j : Nat => ((j : Int), (1 : Int), name, if j < i then (data[j]?).getD nob else nob))[i]? = some ((i : Int), (1 : Int), name, nob) := by
     rw [List.getElem?_map, List.getElem?_range (by omega)]; simp
    have ix : Gx.idxL 4 (⟨some ⟨b, 0, some 0⟩, data.length, data.length⟩ : Slc) (i : Int) = some ⟨b, i * 4, none⟩ := by
     simp only [idxL]
     rw [if_pos (by omega)]
     simp
    refine Gx.Wp.ifp (by simp; omega) (Gx.Wp.bnd p1 (Gx.Wp.bnd p2 (Gx.Wp.bnd ix (Gx.Wp.bnd (stQ1 (j := 3) (y := ((i : Int), (1 : Int), name, dt)) gH hix (by decide) rfl rfl) ?_))))
    rw [Gx.w1 (by omega)]
    refine ih (i + 1) _ (by omega) (cH.trans (Chg.set (.inr rfl))) ?_
    rw [sset_get]
    congr 3
    rw [map_set]
    refine List.map_congr_left fun j hj => ?_
    by_cases e : j = i
    ·subst e; simp [hdt]
    ·by_cases e2 : j < i
     ·rw [if_neg e, if_pos e2, if_pos (by omega)]
     ·rw [if_neg e, if_neg e2, if_neg (by omega)]
  refine loop data.length 0 r2.2 (by omega) (Chg.refl _ _) ?_
  rw [hb]
  congr 3
  unfold askL
  rw [if_pos hm1, Int.toNat_natCast]
  rfl
end
end Gt
namespace Gt
open Go Gx
def fanP (n : Int) (p : Prg) : Prg := if may n = true then p else finP ⟨1, 0, [], []⟩
theorem fanJob {k N n : Nat} (hn : 2 ≤ n) {n0 : Int} {g : Nat} {x y : Array Value} {p : Prg} {h : AHeap}
  (run : may n0 = true → ∀ (h' : AHeap) (ib : Nat), Keeps h h' → h.next ≤ ib → ib < h'.next → h'.get ib = some (.cells (ioC q0 .nilFunc false 0 0 nils nils 0) 89 true 0) →
   Does (lvl k (n - 1)) g x y [ptr ib] h' fun h'' => Chg (In (fun y => y = ib) h'.next) h' h'' ∧ IoQ (lvl k) N ib p 0 (Gr (fun y => y = ib) h'.next h'') h'') :
  Gx.Wp (fan_job k (lvl k n) n0 (.func (.func g) x y) h) fun z => ∃ jb O, z.1 = some ⟨jb, 0, none⟩ ∧ Keeps h z.2 ∧ JobP (lvl k) N jb (fanP n0 p) 0 O z.2 ∧ (∀ y, O y → h.next ≤ y) ∧ h.next ≤ jb := by
 simp only [fan_job]
 have ec : (Value.func (.func g) x y).cells.toList = [.func (.func g) x y] := rfl
 rw [ec]
 refine Gx.Wp.new fun H1 k1 n1 g1 => Gx.Wp.new fun H2 k2 n2 g2 => ?_
 obtain ⟨n', rfl⟩ : ∃ n', n = n' + 1 := ⟨n - 1, by omega⟩
 obtain ⟨ib, eib⟩ : ∃ ib, ib = H2.next := ⟨_, rfl⟩
 refine Gx.Wp.call (Start_P (L := lvl k) (N := N) (p := fanP n0 p) (O := fun _ => False) (fun y f => f.elim) fun h' kp h2 hio => ?_) fun r hr => ?_
 ·rw [← eib] at hio h2 ⊢
  refine Does.of (X := fan_job_1 k (lvl k n') (some ⟨ib, 0, none⟩) (some ⟨h.next, 0, none⟩) (some ⟨H1.next, 0, none⟩) h') (by decide) (fun R κ => rfl) ?_
  simp only [fan_job_1]
  have np := kp.nx
  have b1 := kp.got (by omega) (k2.got (by omega) g1)
  have b2 := kp.got (by omega) g2
  refine Gx.Wp.bnd rfl (Gx.Wp.bnd (sldI_at b1 rfl) (Gx.Wp.bnd (may_spec9 k _ n0 h') ?_))
  by_cases c : 1 ≤ n0 ∧ n0 ≤ 255
  ·have hm : may n0 = true := decide_eq_true c
   rw [decide_eq_true c]
   refine Gx.Wp.ifn (fun z => by cases z) (Gx.Wp.bnd rfl (Gx.Wp.bnd (ldV_at b2 rfl) ?_))
   refine Does.wp (run hm h' ib ((k1.trans k2).trans kp) (by omega) h2 hio) (by kernel_rfl) fun h6 q6 => Gx.Wp.of ?_
   unfold fanP
   rw [if_pos hm]
   exact ⟨q6.1.wk fun y _ z => z.imp .inr id, q6.2.mono fun y z => z.imp .inr id⟩
  ·have hm : may n0 = false := decide_eq_false c
   rw [decide_eq_false c]
   refine Gx.Wp.ifp rfl (Gx.Wp.call (End_spec (lvl k n') hio (by dsimp only; omega)) fun z hz => Gx.Wp.of ?_)
   obtain ⟨c1, g1'⟩ := hz
   unfold fanP
   rw [if_neg (by rw [hm]; decide)]
   exact ⟨c1.wk fun y _ q => .inl (.inr q), fun _ _ => trivial, .inl ⟨q0, nils, nils, g1', ⟨rfl, fun i x hx => by simp at hx⟩, ⟨rfl, fun i x hx => by simp at hx⟩, (fun a ha => by cases ha), (fun a ha => by cases ha)⟩⟩
 ·obtain ⟨jb, O, e, c, J, _, far, hj⟩ := hr
  exact Gx.Wp.of ⟨jb, O, e, (k1.trans k2).trans (c.wk fun y _ f => f), J, fun y o => (far y o).elim (fun f => f.elim) fun q => by omega, by omega⟩
def codesZ (cs : List Int) : Rz := ⟨firstC [] cs, goodC cs, [], []⟩
def putP (name : ByteArray) (data : List ByteArray) : Prg := fanP data.length (askAll (putsL name data) [] fun ys => finP (codesZ (codesY ys)))
theorem PutJob_P {k n : Nat} (hn : 8 ≤ n) (hk : 1000 < k) {h : AHeap} {name : ByteArray} {dsl : Slc} {data : List ByteArray} (R : Row encS h dsl data) (hl : data.length ≤ 1099511627776) :
  Gx.Wp (fan_PutJob k (lvl k n) name dsl h) fun z => ∃ jb O, z.1 = some ⟨jb, 0, none⟩ ∧ Keeps h z.2 ∧ JobP (lvl k) 5 jb (putP name data) 0 O z.2 ∧ (∀ y, O y → h.next ≤ y) ∧ h.next ≤ jb := by
 simp only [fan_PutJob]
 refine Gx.Wp.new fun H1 k1 n1 g1 => Gx.Wp.new fun H2 k2 n2 g2 => Gx.Wp.bnd (sldL_at g2 rfl) ?_
 refine Gx.Wp.call (cloneS_acc (lvl k n) (s := ⟨dsl.a, dsl.len, dsl.cap⟩) (Row.keeps R (k1.trans k2)) hl) fun r4 q4 => ?_
 obtain ⟨k4, R4, f4⟩ := q4
 have n4 := k4.nx
 refine Gx.Wp.st (sp := none) (k4.got (by omega) g2) (by show 0 < 1; omega) rfl fun H5 (c5 : Chg (· = H1.next) r4.2 H5) n5 g5 => ?_
 have g5 : H5.get H1.next = some (.cells [.slice r4.1.a r4.1.len r4.1.cap] 22 true 0) := g5
 refine Gx.Wp.bnd (sldL_at g5 rfl) ?_
 have R5 : Row encS H5 ⟨r4.1.a, r4.1.len, r4.1.cap⟩ data := Row.chg R4 c5 fun a ha q => by have := f4 a ha; omega
 have len : ((⟨r4.1.a, r4.1.len, r4.1.cap⟩ : Slc).len : Int) = (data.length : Int) := by rw [R5.1]
 rw [len]
 have k5 : Keeps h H5 := Chg.beh (T := (· = H1.next)) ((k1.trans k2).trans k4) c5 fun y hy q => by omega
 have nm5 := c5.got (by omega) (by omega) (k4.got (by omega) (k2.got (by omega) g1))
 obtain ⟨n', rfl⟩ : ∃ n', n = n' + 2 := ⟨n - 2, by omega⟩
 refine Gx.Wp.call (fanJob (N := 5) (p := askAll (putsL name data) [] fun ys => finP (codesZ (codesY ys))) (by omega) fun hm h' ib kp h1 h2 hio => ?_) fun z hz => ?_
 ·refine Does.of (X := fan_PutJob_1 k (lvl k n') (some ⟨ib, 0, none⟩) (some ⟨h.next, 0, none⟩) (some ⟨H1.next, 0, none⟩) h') (by decide) (fun R κ => rfl) ?_
  simp only [fan_PutJob_1]
  have np := kp.nx
  refine Gx.Wp.new fun H7 k7 n7 g7 => Gx.Wp.bnd (ldP_at g7 rfl) (Gx.Wp.bnd rfl (Gx.Wp.bnd (ldS_at (k7.got (by omega) (kp.got (by omega) nm5)) rfl) (Gx.Wp.bnd rfl (Gx.Wp.bnd (sldL_at (k7.got (by omega) (kp.got (by omega) g5)) rfl) ?_))))
  have hl2 : (putsL name data).length ≤ 255 := putsL_len
  have P := Puts_io (k := k) (N := 5) (c := 1) (n := n') (ib := ib) (O := fun y => y = ib ∨ y = h'.next) (m := H7.next) (h := H7) (name := name) (dsl := ⟨r4.1.a, r4.1.len, r4.1.cap⟩) (data := data) (K := fun cs => finP (codesZ cs)) (by omega) (by omega) hk (then86 (b1 := h'.next) ⟨.inr rfl, by omega⟩ g7 (by omega) (by omega)) (.inl rfl) (fun y q => by omega) (Nat.le_refl _) (k7.got (by omega) hio) (Row.keeps R5 (kp.trans k7))
  refine Gx.Wp.call P fun z hz => Gx.Wp.of ?_
  obtain ⟨c, i⟩ := hz
  have nz := c.nx
  refine ⟨Chg.beh (Chg.keeps k7) c fun y hy q => ?_, i.mono fun y q => ?_⟩
  ·rcases q with (q | q) | q
   ·exact .inl q
   ·exact .inr (by omega)
   ·exact .inr (by omega)
  ·rcases q with (q | q) | q
   ·exact .inl q
   ·exact .inr ⟨by omega, by dsimp only; omega⟩
   ·exact .inr ⟨by omega, q.2⟩
 ·obtain ⟨jb, O, e, kz, J, far, hj⟩ := hz
  have := k5.nx
  exact Gx.Wp.of ⟨jb, O, e, k5.trans kz, J, fun y o => by have := far y o; omega, by omega⟩
theorem run9 {L : Nat → CallF} {k n N jb : Nat} (hn : N ≤ n) {sl : Slc} {p p' : Prg} {ss ss' : List Sb} {s m st : Nat} {O : Nat → Prop} {h : AHeap} (R : RunR k 300 p ss p' ss' s) (J : JobP L N jb p st O h) (T : Sts h sl m ss) (lts : ∀ y, SSet ss y → y < h.next ∧ ¬ JSet O jb y) (hsl : ∀ a, sl.a = some a → a.block < h.next ∧ ¬ JSet O jb a.block)
  (hm : m + s ≤ 100000) (hk : m + s < k) (hss : st + s ≤ 1048576) (l1 : p'.res.ids.length ≤ 1099511627776) (l2 : p'.res.texts.length ≤ 1099511627776) :
  Gx.Wp (law09_run k (L n) (some ⟨jb, 0, none⟩) sl h) fun z => ∃ O', z.1.2 = p'.over ∧ ResOk z.2 p'.res z.1.1 ∧ JobP L N jb p' (st + s) O' z.2 ∧ (∀ y, O' y → O y ∨ h.next ≤ y) ∧ (∀ y, SSet ss' y ↔ SSet ss y) ∧ Sts z.2 sl (m + s) ss' ∧ Chg (fun y => SSet ss y ∨ O y) h z.2 := by
 simp only [law09_run]
 refine Gx.Wp.new fun H1 k1 n1 g1 => Gx.Wp.ifn (fun z => by cases z) ?_
 have jl := J.lj
 have ol := J.lt
 refine Gx.Wp.call (Run_P (L := L) hn R (J.chg k1 fun _ _ f => f) (T.keeps k1) (fun y hy => ⟨by have := (lts y hy).1; omega, (lts y hy).2⟩) (fun a ha => ⟨by have := (hsl a ha).1; omega, (hsl a ha).2⟩) hm hk hss) fun r5 q5 => ?_
 obtain ⟨O', v, J5, sub, far, sset, T5, c5⟩ := q5
 have n5 := c5.nx
 refine Gx.Wp.call (Result_F (L n) J5 l1 l2) fun r6 q6 => ?_
 obtain ⟨⟨k6, o6⟩, fa, fb⟩ := q6
 have nin : ¬ (SSet ss h.next ∨ O h.next) := fun z => z.elim (fun z => by have := (lts _ z).1; omega) fun z => by have := ol _ z; omega
 have g6 := k6.got (by omega) (c5.got (by omega) nin g1)
 have n6 := k6.nx
 refine Gx.Wp.stL (sp := none) g6 rfl rfl rfl (by decide) fun H7 c7 n7 g7 => Gx.Wp.bnd (sldA_at g7 rfl) (Gx.Wp.bnd rfl (Gx.Wp.of ?_))
 have nO : ¬ O' h.next := fun z => (far _ z).elim (fun z => by have := ol _ z; omega) fun z => by omega
 have cA : Chg (fun y => SSet ss y ∨ O y) h H7 := Chg.beh (T := (· = h.next)) ((Chg.keeps k1).trans (c5.trans (Chg.keeps k6))) c7 fun y hy q => by omega
 refine ⟨O', ?_, ?_, (J5.chg k6 fun _ _ f => f).chg c7 (fun y hy q => ?_), fun y o => (far y o).imp id fun q => by omega, sset, (T5.keeps k6).chg c7 (fun y hy q => ?_) (fun a ha q => ?_), cA⟩
 ·dsimp only
  rw [v]
  cases p'.over <;> rfl
 ·obtain ⟨o1, o2, o3, o4, o5, o6', o7⟩ := o6
  exact ⟨o1, o2, o3, Row.chg o4 c7 fun a ha q => by have := fa a ha; omega, Row.chg o5 c7 fun a ha q => by have := fb a ha; omega, o6', o7⟩
 ·rcases hy with hy | hy
  ·exact nO (q ▸ hy)
  ·omega
 ·have := (lts y ((sset y).1 hy)).1; omega
 ·have := (hsl a ha).1; omega
end Gt
namespace Gt
open Go Gx
structure Yd (base q : Nat) (h : AHeap) (s : Slc) (ss : List Sb) : Prop where
 As : Acc encB 26 base h s ss
 sr : ∀ t ∈ ss, SR h t.1 t.2.1 (ps0 q) ∧ t.2.2 = ps0 q ∧ base ≤ t.1 ∧ base ≤ t.2.1
 aps : ss.Pairwise fun s t => ¬ SB s.1 s.2.1 t.1 ∧ ¬ SB s.1 s.2.1 t.2.1
theorem Yd.nil (base q : Nat) (h : AHeap) : Yd base q h nils [] := ⟨Acc.nil _ _ _ _, (fun t ht => by simp at ht), .nil⟩
section
variable {base q : Nat} {h : AHeap} {s : Slc} {ss : List Sb}
theorem Yd.push (M : Yd base q h s ss) (hl : ss.length ≤ 1000) (hb : base ≤ h.next) {h1 H : AHeap} (k1 : Keeps h h1) (s1 : SR h1 (h.next + 1) h.next (ps0 q)) (eH : H = h1.new (.cells [ptr (h.next + 1)] 26 true 0)) :
  ∃ s' h' x, rdS 1 (⟨some ⟨h1.next, 0, some 0⟩, 1, 1⟩ : Slc) H = some [ptr (h.next + 1)] ∧ appendA 1 8 26 H s [ptr (h.next + 1)] 1 = some (s', h') ∧ Yd base q h' s' (ss ++ [x]) ∧ Chg (fun y => base ≤ y) h h' := by
 have n1 := k1.nx
 have lt1 := s1.lt
 obtain ⟨x, ex⟩ : ∃ x : Sb, x = (h.next + 1, h.next, ps0 q) := ⟨_, rfl⟩
 have As := M.As.keeps k1
 obtain ⟨s', h3, r3, a3, As', c3, d3⟩ := Acc.pushK As encB_one x (bytes := 8) (H := H) (by rw [eH, ex]; rfl) (by omega) (by decide) (by omega)
 rw [ex] at r3 a3
 have sk : ∀ y, ofS s y → ∃ m c, h1.get y = some (.cells (.pointer m :: c) 26 true 0) := fun y ⟨a, ha, q⟩ => q ▸ accP_blk encB_ptr As ha
 refine ⟨s', h3, x, r3, a3, ⟨As', fun t ht => ?_, List.pairwise_append.2 ⟨M.aps, by simp, fun a ha b hb => ?_⟩⟩, Chg.beh (T := fun y => base ≤ y) (Chg.keeps k1) (c3.wk fun y _ ⟨a, ha, q⟩ => by have := (As.lt a ha).2; omega) fun y hy z => z⟩
 ·have S2 : SR h1 t.1 t.2.1 (ps0 q) ∧ t.2.2 = ps0 q ∧ base ≤ t.1 ∧ base ≤ t.2.1 := by
   rcases List.mem_append.1 ht with ht | ht
   ·obtain ⟨b1, b2, b3⟩ := M.sr t ht
    exact ⟨b1.keeps k1, b2, b3⟩
   ·simp at ht; subst ht ex
    exact ⟨s1, rfl, by dsimp only; omega, hb⟩
  obtain ⟨b1, b2, b3⟩ := S2
  exact ⟨b1.chg c3 (fun z => by obtain ⟨m, c, g⟩ := sk _ z; exact b1.notP g (.inl rfl)) fun z => by obtain ⟨m, c, g⟩ := sk _ z; exact b1.notP g (.inr rfl), b2, b3⟩
 ·simp at hb; subst hb ex
  have := (M.sr a ha).1.lt
  exact ⟨fun z => by rcases z with z | z <;> simp only at z <;> omega, fun z => by rcases z with z | z <;> simp only at z <;> omega⟩
theorem Yd.sts (M : Yd base q h s ss) (hq : q ≤ 1073741824) : Sts h s 0 ss := by
 refine ⟨M.As.row, fun a ha z => ?_, fun i t hi => ?_, fun i j a b hi hj hij => ?_⟩
 ·obtain ⟨t, ht, z⟩ := z
  obtain ⟨m, c, g⟩ := accP_blk encB_ptr M.As ha
  exact ((M.sr t ht).1).notP g z
 ·obtain ⟨b1, b2, _⟩ := M.sr t (mem_of hi)
  rw [b2]
  exact ⟨b1, good0, Nat.le_refl _, Nat.le_refl _, Nat.zero_le _, hq⟩
 ·refine pair_of M.aps (fun a b ha hb z => ?_) hi hj hij
  obtain ⟨z1, z2⟩ := z
  refine ⟨fun w => ?_, fun w => ?_⟩
  ·rcases w with w | w
   ·exact z1 (.inl w.symm)
   ·exact z2 (.inl w.symm)
  ·rcases w with w | w
   ·exact z1 (.inr w.symm)
   ·exact z2 (.inr w.symm)
theorem Yd.sset (M : Yd base q h s ss) {y : Nat} (z : SSet ss y) : base ≤ y ∧ y < h.next := by
 obtain ⟨t, ht, z⟩ := z
 obtain ⟨b1, b2, b3, b4⟩ := M.sr t ht
 have := b1.lt
 rcases z with rfl | rfl <;> omega
theorem Yd.ls (M : Yd base q h s ss) {a : Addr} (ha : s.a = some a) : base ≤ a.block ∧ a.block < h.next ∧ ¬ SSet ss a.block := by
 have b := M.As.lt a ha
 obtain ⟨m, c, g⟩ := accP_blk encB_ptr M.As ha
 exact ⟨b.2, b.1, fun ⟨t, ht, z⟩ => ((M.sr t ht).1).notP g z⟩
theorem Yd.maps (M : Yd base q h s ss) : ss.map (·.2.2) = List.replicate ss.length (ps0 q) := by
 have := List.eq_replicate_of_mem (l := ss.map (·.2.2)) (a := ps0 q) fun x hx => by
  obtain ⟨t, ht, rfl⟩ := List.mem_map.1 hx
  exact (M.sr t ht).2.1
 rw [List.length_map] at this
 exact this
end
theorem yard9 {k : Nat} (D : CallF) {h : AHeap} (n : Nat) (hn : n ≤ 1000) (hk : 1001 < k) : Gx.Wp (law09_yard k D (n : Int) h) fun z => ∃ ss, Yd h.next 1048576 z.2 z.1 ss ∧ Keeps h z.2 ∧ ss.length = n := by
 simp only [law09_yard]
 refine Gx.Wp.jn fun j hj => ?_
 unfold law09_yard_l0
 obtain ⟨bot, eb⟩ := iterK_of (fun _ _ _ _ => none) (law09_yard_l0b k D j) (show n + 1 ≤ k by omega)
 rw [eb]
 have loop : ∀ (d i : Nat) (s : Slc) (h' : AHeap) (ss : List Sb), i + d = n → ss.length = i → Yd h.next 1048576 h' s ss → h.next ≤ h'.next → Chg (fun y => h.next ≤ y) h h' → Gx.Wp (iterK bot (d + 1) (law09_yard_l0b k D j) s (n : Int) (i : Int) h') fun z => ∃ ss, Yd h.next 1048576 z.2 z.1 ss ∧ Keeps h z.2 ∧ ss.length = n := fun d => by
  induction d with
  | zero =>
   intro i s h' ss hd hl M hn' c
   rw [iterK_s]; simp only [law09_yard_l0b]
   subst hj
   exact Gx.Wp.ifn (by simp; omega) (Gx.Wp.of ⟨ss, M, ⟨c.nx, fun x hx _ => c.oth x hx (by omega)⟩, by omega⟩)
  | succ d ih =>
   intro i s h' ss hd hl M hn' c
   rw [iterK_s]; simp only [law09_yard_l0b]
   obtain ⟨h1, e1, k1, s1⟩ := New_spec (k := k) D (h := h') (q := 1048576) (by decide)
   refine Gx.Wp.ifp (by simp; omega) (Gx.Wp.bnd e1 (Gx.Wp.ifn (fun z => by cases z) (Gx.Wp.newE fun H eH kH nH gH => ?_)))
   obtain ⟨s', h3, x, r3, a3, M', c3⟩ := M.push (by omega) hn' k1 s1 eH
   refine Gx.Wp.bnd r3 (Gx.Wp.bnd a3 ?_)
   rw [Gx.w1 (by omega)]
   exact ih (i + 1) s' h3 _ (by omega) (by simp [hl]) M' (by have := c3.nx; omega) (c.trans c3)
 exact loop n 0 nils h [] (by omega) rfl (Yd.nil _ _ _) (Nat.le_refl _) (Chg.refl _ _)
def d9 : List ByteArray := [⟨#[120]⟩, ⟨#[121]⟩]
def q9 : List Rq := putsL ⟨#[97]⟩ d9
theorem ans9 : (ansL q9 [(0, 0, ps0 1048576), (0, 0, ps0 1048576)]).2 = [(0, nob, []), (0, nob, [])] := by kernel_rfl
theorem put9 : putP ⟨#[97]⟩ d9 = askAll q9 [] fun ys => finP (codesZ (codesY ys)) := by
 unfold putP fanP
 rw [if_pos (show may (d9.length : Int) = true by kernel_rfl)]; rfl
theorem works9 {k : Nat} (hk : 2000 < k) {h : AHeap} : Gx.Wp (law09_works k (lvl k 60) h) fun z => z.1 = true ∧ Keeps h z.2 := by
 simp only [law09_works]
 refine Gx.Wp.call (yard9 (lvl k 60) 2 (by decide) (by omega)) fun r1 h1 => ?_
 obtain ⟨ss, M, k1, l1⟩ := h1
 have n1 := k1.nx
 have some1 : ∃ a, r1.1.a = some a := by
  rcases M.As.st with ⟨_, e⟩ | ⟨b, g⟩
  ·rw [e] at l1; cases l1
  ·exact ⟨_, by rw [g.s]⟩
 obtain ⟨a1, ha1⟩ := some1
 refine Gx.Wp.ifn (by rw [ha1]; exact fun z => by cases z) (Gx.Wp.new fun H2 k2 n2 g2 => ?_)
 have R2 : Row encS H2 ⟨some ⟨r1.2.next, 0, some 0⟩, 2, 2⟩ d9 := row_lit d9 (e := 9) (r := true) (fz := 0) g2 (by omega)
 refine Gx.Wp.call (PutJob_P (n := 60) (by decide) (by omega) R2 (by decide)) fun r3 h3 => ?_
 obtain ⟨jb, O, ej, k3, J, far, hj⟩ := h3
 rw [ej]
 have n3 := k3.nx
 have jl := J.lj
 have same := ansL_same (qs := q9) (ss := ss) (uu := [(0, 0, ps0 1048576), (0, 0, ps0 1048576)]) (by rw [M.maps, l1]; rfl)
 have RR' : RunR k 300 (putP ⟨#[97]⟩ d9) ss (finP (codesZ [0, 0])) (ansL q9 ss).1 (0 + q9.length) := by
  rw [put9]
  have w := run_all (k := k) (K := fun ys => finP (codesZ (codesY ys))) (most := 298) (qs := q9) (acc := []) (ss := ss) (p' := finP (codesZ [0, 0])) (ss' := (ansL q9 ss).1) (s := 0) (fun q hq => ?_) ?_
  ·rw [show 298 + q9.length = 300 by kernel_rfl] at w
   exact w
  ·simp only [q9, putsL] at hq
   rw [if_pos (by rfl)] at hq
   obtain ⟨i, _, rfl⟩ := List.mem_map.1 hq
   exact ⟨by show 1 < k; omega, by show 1 ≤ _; decide⟩
  ·rw [List.nil_append, same.1, ans9]
   exact RunR.over
 refine Gx.Wp.call (run9 (L := lvl k) (N := 5) (n := 60) (by decide) RR' J ((M.sts (by decide)).keeps (k2.trans k3)) (fun y hy => ?_) (fun a ha => ?_) (by decide) (by show 0 + 2 < k; omega) (by decide) (by decide) (by decide)) fun r4 h4 => ?_
 ·have := M.sset hy
  exact ⟨by omega, fun z => z.elim (fun z => by have := far y z; omega) fun z => by omega⟩
 ·have := M.ls ha
  exact ⟨by omega, fun z => z.elim (fun z => by have := far _ z; omega) fun z => by omega⟩
 obtain ⟨O', v1, o4, J4, _, _, T4, c4⟩ := h4
 have n4 := c4.nx
 refine Gx.Wp.new fun H5 k5 n5 g5 => Gx.Wp.stL (sp := none) g5 rfl rfl rfl (by decide) fun H6 c6 n6 g6 => ?_
 have k6 : Keeps r4.2 H6 := Chg.beh (T := (· = r4.2.next)) k5 c6 fun y hy q => by omega
 refine Gx.Wp.ifp (by rw [v1]; rfl) (Gx.Wp.bnd (Steps_P _ (J4.chg k6 fun _ _ f => f)) (Gx.Wp.ifp (by rfl) (Gx.Wp.bnd (sldI_at g6 rfl) (Gx.Wp.ifp (by rw [o4.2.2.1]; rfl) (Gx.Wp.bnd (sldI_at g6 rfl) (Gx.Wp.of ⟨?_, ?_⟩))))))
 ·dsimp only
  rw [o4.1]; rfl
 ·refine (Chg.beh (k1.trans (k2.trans k3)) c4 fun y hy z => ?_).trans k6
  rcases z with z | z
  ·have := M.sset z; omega
  ·have := far y z; omega
end Gt
namespace Gt
open Go Gx
section
variable {k : Nat} {D : CallF}
end
end Gt
namespace Gt
open Go Gx
section
variable {k N c ib len : Nat} {g : Nat} {x y : Array Value} {O : Nat → Prop} {h : AHeap}
theorem ThenP.frame {L : Nat → CallF} {K : List Ry → Prg} {P : Nat → Prop} {h2 : AHeap} (T : ThenP L N c ib g x y len K O h) (sub : ∀ y, O y → P y) (a : Agr (But O ib) h h2) : ThenP L N c ib g x y len K P h2 :=
 fun n hn P' h' m st q s ag lt hm hP hio ys xs sl R S hys ow so sm no => T n hn P' h' m st q (fun y o => s y (sub y o)) (a.trans (ag.wk fun y o => ⟨sub y o.1, o.2⟩)) lt hm hP hio ys xs sl R S hys ow so sm ⟨fun a ha z => no.1 a ha (sub _ z), fun i z hz a ha w => no.2 i z hz a ha (sub _ w)⟩
theorem askAll_io {n st m : Nat} {q : Rq} {K : List Ry → Prg} {n0 kind : Int} {name : ByteArray} (hN : c + 3 ≤ N) (hn : c + 2 ≤ n) (hk : 1000 < k) (T : ThenP (lvl k) N c ib g x y (askL n0 kind name nob).length K O h) (hO : O ib) (lt : ∀ y, O y → y < m) (hm : m ≤ h.next)
  (hio : h.get ib = some (.cells (ioC q .nilFunc false 0 0 nils nils st) 89 true 0)) :
  Gx.Wp ((fan_ask k (lvl k n) n0 (0, kind, name, ⟨#[]⟩) h).bind fun r1 => (port_IO_All k (lvl k n) (some ⟨ib, 0, none⟩) r1.1 (.func (.func g) x y) r1.2).bind fun r2 => some ((), r2.2)) fun z => Chg (In O m) h z.2 ∧ IoQ (lvl k) N ib (askAll (askL n0 kind name nob) [] K) st (Gr O m z.2) z.2 := by
 have li := lt _ hO
 refine Gx.Wp.call (ask_spec n0 kind name ⟨#[]⟩ (by omega)) fun r1 q1 => ?_
 obtain ⟨k1, q1⟩ := q1
 have n1 := k1.nx
 have hl : (askL n0 kind name nob).length ≤ 255 := askL_len
 have R1 : RowW 4 encQ r1.2 r1.1 (askL n0 kind name nob) := by
  rcases q1 with ⟨hm0, e⟩ | ⟨hm1, b, e, hb1, hb2, hb⟩
  ·rw [e]
   have : askL n0 kind name nob = [] := by unfold askL; rw [if_neg (by rw [hm0]; decide)]
   rw [this]
   exact ⟨rfl, fun i x hx => by simp at hx⟩
  ·have lq : (askL n0 kind name nob).length = n0.toNat := by unfold askL; rw [if_pos hm1]; simp
   have RQ := rowW_blk (cap := n0.toNat) (n := n0.toNat) (sp := some 0) encQ_len hb hb2 (by rw [show askL n0 kind name ⟨#[]⟩ = askL n0 kind name nob from rfl, lq]; exact Nat.le_refl _)
   rw [List.take_of_length_le (by rw [show askL n0 kind name ⟨#[]⟩ = askL n0 kind name nob from rfl, lq]; exact Nat.le_refl _)] at RQ
   rw [e]; exact RQ
 have T2 : ThenP (lvl k) N c ib g x y (askL n0 kind name nob).length K O r1.2 := T.frame (fun y o => o) (chg_agr k1 (fun y o => by have := lt _ o.1; omega) fun y o f => f)
 refine Gx.Wp.call (All_io (k := k) (N := N) (c := c) (n := n) (O := O) (m := r1.2.next) hN hn T2 hO (fun y o => by have := lt y o; omega) (Nat.le_refl _) (k1.got (by omega) hio) R1 (by omega)) fun z hz => Gx.Wp.of ?_
 obtain ⟨cz, iz⟩ := hz
 refine ⟨Chg.beh (Chg.keeps k1) cz fun y hy o => ?_, iz.mono fun y o => ?_⟩
 ·rcases o with o | o
  ·exact .inl o
  ·omega
 ·rcases o with o | o
  ·exact .inl o
  ·exact .inr ⟨by omega, o.2⟩
end
theorem nilS' (h : AHeap) : Row encS h (⟨none, 0, 0⟩ : Slc) [] := ⟨rfl, fun i x hx => by simp at hx⟩
section
variable {k N ib len b1 : Nat} {O : Nat → Prop} {h : AHeap}
end
end Gt
namespace Gt
open Go Gx
instance memD (n : ByteArray) (ks : List ByteArray) : Decidable (n ∈ ks) := decidable_of_iff (ks.any (fun k => decide (k = n)) = true) (by simp)
def ad (n : ByteArray) (ks : List ByteArray) : List ByteArray := if n ∈ ks then ks else ks ++ [n]
def uni : List ByteArray → List ByteArray → List ByteArray
 | [], ks => ks
 | n :: ns, ks => uni ns (ad n ks)
def namesA : List Ry → List ByteArray → List ByteArray
 | [], ks => ks
 | y :: ys, ks => namesA ys (uni y.2.2 ks)
def nmK (ks : List ByteArray) : List ByteArray := ((ks.map bl).mergeSort leB).map ba
def namesY (ys : List Ry) : List ByteArray := nmK (namesA ys [])
def encN : List ByteArray → Nat → List (Value × Value × Nat)
 | [], _ => []
 | k :: ks, i => (.string k, .bool true, i) :: encN ks (i + 1)
theorem encN_keys : ∀ (ks : List ByteArray) (i : Nat), (encN ks i).map (·.1) = ks.map Value.string
 | [], _ => rfl
 | k :: ks, i => by simp [encN, encN_keys ks (i + 1)]
theorem encN_app : ∀ (ks : List ByteArray) (n : ByteArray) (i : Nat), encN (ks ++ [n]) i = encN ks i ++ [(.string n, .bool true, i + ks.length)]
 | [], _, _ => rfl
 | k :: ks, n, i => by simp only [List.cons_append, encN, encN_app ks n (i + 1), List.length_cons]; rw [show i + 1 + ks.length = i + (ks.length + 1) by omega]
theorem encN_find (n : ByteArray) : ∀ (ks : List ByteArray) (b i : Nat), (n ∉ ks ∧ findE (.string n) (encN ks b) i = some none) ∨ (n ∈ ks ∧ ∃ j, findE (.string n) (encN ks b) i = some (some (i + j, .bool true)) ∧ (encN ks b).modify j (fun e => (.string n, .bool true, e.2.2)) = encN ks b)
 | [], _, _ => .inl ⟨by simp, rfl⟩
 | k :: ks, b, i => by
  by_cases h : k = n
  ·subst h
   have hb : (k == k) = true := by rw [ba_beq]; simp
   exact .inr ⟨by simp, 0, by simp only [encN, findE, keyEq, hb]; rfl, rfl⟩
  ·have hb : (n == k) = false := by rw [ba_beq]; simpa using fun q => h q.symm
   have e : findE (.string n) (encN (k :: ks) b) i = findE (.string n) (encN ks (b + 1)) (i + 1) := by simp only [encN, findE, keyEq, hb]
   rcases encN_find n ks (b + 1) (i + 1) with ⟨h1, h2⟩ | ⟨h1, j, h2, h3⟩
   ·exact .inl ⟨by simp [h1]; exact fun q => h q.symm, e.trans h2⟩
   ·refine .inr ⟨by simp [h1], j + 1, by rw [e, h2, show i + 1 + j = i + (j + 1) by omega], ?_⟩
    simp only [encN, List.modify_succ_cons, h3]
theorem updN {h : AHeap} {r : Nat} {ks : List ByteArray} (hm : h.get r = some (.map (encN ks 0) ks.length)) (n : ByteArray) : ∃ h', updE h r (.string n) (.bool true) = some h' ∧ Chg (· = r) h h' ∧ h'.next = h.next ∧ h'.get r = some (.map (encN (ad n ks) 0) (ad n ks).length) := by
 rcases encN_find n ks 0 0 with ⟨h1, h2⟩ | ⟨h1, j, h2, h3⟩
 ·refine ⟨_, by simp only [updE, hm, h2]; rfl, Chg.set (.inr rfl), rfl, ?_⟩
  rw [sset_get, ad, if_neg h1, encN_app]; simp
 ·refine ⟨_, by simp only [updE, hm, h2]; rfl, Chg.set (.inr rfl), rfl, ?_⟩
  rw [sset_get, ad, if_pos h1, Nat.zero_add, h3]
theorem ad_nodup {n : ByteArray} {ks : List ByteArray} (h : ks.Nodup) : (ad n ks).Nodup := by
 unfold ad
 split
 ·exact h
 ·rename_i q
  exact List.nodup_append.2 ⟨h, by simp, fun a ha b hb => by simp at hb; subst hb; exact fun e => q (e ▸ ha)⟩
theorem uni_nodup : ∀ {ns ks : List ByteArray}, ks.Nodup → (uni ns ks).Nodup
 | [], _, h => h
 | _ :: ns, _, h => uni_nodup (ns := ns) (ad_nodup h)
theorem namesA_nodup : ∀ {ys : List Ry} {ks : List ByteArray}, ks.Nodup → (namesA ys ks).Nodup
 | [], _, h => h
 | _ :: ys, _, h => namesA_nodup (ys := ys) (uni_nodup h)
theorem mem_ad {n x : ByteArray} {ks : List ByteArray} : x ∈ ad n ks ↔ x ∈ ks ∨ x = n := by
 unfold ad
 split
 ·rename_i q; exact ⟨.inl, fun h => h.elim id fun e => e ▸ q⟩
 ·simp
theorem mem_uni {x : ByteArray} : ∀ {ns ks : List ByteArray}, x ∈ uni ns ks ↔ x ∈ ks ∨ x ∈ ns
 | [], _ => by simp [uni]
 | n :: ns, ks => by
  simp only [uni, mem_uni (ns := ns), mem_ad, List.mem_cons]
  exact ⟨fun h => h.elim (fun h => h.imp id .inl) fun h => .inr (.inr h), fun h => h.elim (fun h => .inl (.inl h)) fun h => h.elim (fun h => .inl (.inr h)) .inr⟩
theorem mem_namesA {x : ByteArray} : ∀ {ys : List Ry} {ks : List ByteArray}, x ∈ namesA ys ks ↔ x ∈ ks ∨ ∃ y ∈ ys, x ∈ y.2.2
 | [], _ => by simp [namesA]
 | y :: ys, ks => by
  simp only [namesA, mem_namesA (ys := ys), mem_uni, List.mem_cons]
  constructor
  ·rintro ((h | h) | ⟨z, hz, h⟩)
   ·exact .inl h
   ·exact .inr ⟨y, .inl rfl, h⟩
   ·exact .inr ⟨z, .inr hz, h⟩
  ·rintro (h | ⟨z, rfl | hz, h⟩)
   ·exact .inl (.inl h)
   ·exact .inl (.inr h)
   ·exact .inr ⟨z, hz, h⟩
theorem ad_len (n : ByteArray) (ks : List ByteArray) : (ad n ks).length ≤ ks.length + 1 := by
 unfold ad
 split
 ·omega
 ·simp
theorem uni_len : ∀ (ns ks : List ByteArray), (uni ns ks).length ≤ ks.length + ns.length
 | [], _ => Nat.le_refl _
 | n :: ns, ks => by
  have h1 := uni_len ns (ad n ks)
  have h2 := ad_len n ks
  simp only [uni, List.length_cons]; omega
theorem nmK_len (ks : List ByteArray) : (nmK ks).length = ks.length := by simp [nmK]
theorem uni_snoc (n : ByteArray) : ∀ (ns ks : List ByteArray), uni (ns ++ [n]) ks = ad n (uni ns ks)
 | [], _ => rfl
 | m :: ns, ks => by simp only [List.cons_append, uni, uni_snoc n ns]
theorem namesA_snoc (y : Ry) : ∀ (ys : List Ry) (ks : List ByteArray), namesA (ys ++ [y]) ks = uni y.2.2 (namesA ys ks)
 | [], _ => rfl
 | z :: ys, ks => by simp only [List.cons_append, namesA, namesA_snoc y ys]
theorem births_lt : ∀ (ks : List ByteArray) (i : Nat), ∀ e ∈ encN ks i, i ≤ e.2.2 ∧ e.2.2 < i + ks.length
 | [], _, e, h => by cases h
 | k :: ks, i, e, h => by
  rcases List.mem_cons.1 h with rfl | h
  ·simp
  ·have := births_lt ks (i + 1) e h
   simp only [List.length_cons]; omega
theorem births_nodup : ∀ (ks : List ByteArray) (i : Nat), ((encN ks i).map (·.2.2)).Nodup
 | [], _ => .nil
 | k :: ks, i => by
  simp only [encN, List.map_cons, List.nodup_cons]
  refine ⟨fun h => ?_, births_nodup ks (i + 1)⟩
  obtain ⟨e, he, q⟩ := List.mem_map.1 h
  have := births_lt ks (i + 1) e he
  omega
theorem goodN {ks : List ByteArray} (hn : ks.Nodup) (hs : ∀ s ∈ ks, s.size ≤ 1048576) (hl : ks.length ≤ 8796093022208) : mapGood (encN ks 0) ks.length ks = true := by
 simp only [mapGood, Bool.and_eq_true, decide_eq_true_eq, List.all_eq_true]
 refine ⟨⟨⟨⟨sizes_of fun s h => by have := hs s h; omega, hn⟩, births_nodup ks 0⟩, fun e he => by have := births_lt ks 0 e he; omega⟩, by omega⟩
theorem sortedN {h : AHeap} {bx rb : Nat} {ks : List ByteArray} {t : TypeId} (hb : h.get bx = some (.cells [.map (some rb)] t true 0)) (hm : h.get rb = some (.map (encN ks 0) ks.length)) (hn : ks.Nodup) (hs : ∀ s ∈ ks, s.size ≤ 1048576) (hl : ks.length ≤ 8796093022208) :
  ∃ s h', sortedA 116 9 [.func (.func 116) ⟨[]⟩ ⟨[.pointer (some ⟨bx, 0, none⟩)]⟩] h = some (s, h') ∧ Keeps h h' ∧ Acc encS 9 h.next h' s (nmK ks) := by
 have hbm : boxMap h bx = some (some rb) := by simp only [boxMap, hb]
 have hk : keysL (encN ks 0) = some ks := by simp only [keysL, encN_keys, unstrs_map]
 have hg := goodN hn hs hl
 cases ks with
 | nil =>
  refine ⟨⟨none, 0, 0⟩, h, ?_, Chg.refl _ _, by rw [List.eq_nil_of_length_eq_zero (nmK_len [])]; exact Acc.nil _ _ _ _⟩
  simp only [sortedA, hbm, hm, hk, hg]; rfl
 | cons e es =>
  have hne : nmK (e :: es) ≠ [] := fun q => by have := nmK_len (e :: es); rw [q] at this; simp at this
  refine ⟨⟨some ⟨h.next, 0, some 2⟩, (nmK (e :: es)).length, (nmK (e :: es)).length⟩, h.new (outB encS 9 (nmK (e :: es))), ?_, Keeps.new h _, ⟨.inr ⟨h.next, Grown.of hne⟩, fun a ha => by cases ha; simp⟩⟩
  have hs' : srt (e :: es) = (nmK (e :: es)).map encS := by simp only [srt, nmK, List.map_map]; rfl
  simp only [sortedA, hbm, hm, hk, hg]
  simp only [cond_true, decide_true, Bool.and_self, hs', nmK_len, List.length_cons, outB]
def ThenL (L : Nat → CallF) (N c ib : Nat) (g : Nat) (x y : Array Value) (len : Nat) (K : List ByteArray → List Int → Prg) (O : Nat → Prop) (h : AHeap) : Prop :=
 ∀ n, c ≤ n → ∀ (P : Nat → Prop) (h' : AHeap) (m st : Nat) (q : Rq), (∀ y, O y → P y) → Agr (But O ib) h h' → (∀ y, P y → y < m) → m ≤ h'.next → P ib → h'.get ib = some (.cells (ioC q .nilFunc false 0 0 nils nils st) 89 true 0) →
  ∀ (ns : List ByteArray) (nl : Slc) (cs : List Int) (sl : Slc), Row encS h' nl ns → (∀ a, nl.a = some a → m ≤ a.block ∧ a.block < h'.next) → Row encI h' sl cs → cs.length = len → (∀ a, sl.a = some a → m ≤ a.block ∧ a.block < h'.next) →
  Does (L n) g x y [.slice nl.a nl.len nl.cap, .slice sl.a sl.len sl.cap] h' fun h'' => Chg (In P m) h' h'' ∧ IoQ L N ib (K ns cs) st (Gr P m h'') h''
section
variable {k N c ib b len : Nat} {g : Nat} {x y : Array Value} {K : List ByteArray → List Int → Prg} {O : Nat → Prop} {h : AHeap}
theorem listsJ_l1 {D : CallF} (bot) {h0 : AHeap} {sl : Slc} {ns : List ByteArray} {mb : Nat} (R : Row encS h0 sl ns) (hmb : h0.next ≤ mb) (hl : ns.length ≤ 1048576) {Q : Unit × AHeap → Prop} {J} {a1 : Slc} {y1 : Option Addr} {y2 : Slc} {v1 v2 : Int} {ks0 : List ByteArray}
  (hJ : ∀ H, Keeps h0 H → mb < H.next → H.get mb = some (.map (encN (uni ns ks0) 0) (uni ns ks0).length) → Gx.Wp (J a1 y1 (some mb) y2 v1 v2 H) Q) :
  ∀ (d i : Nat) (H : AHeap), i + d = ns.length → Keeps h0 H → mb < H.next → H.get mb = some (.map (encN (uni (ns.take i) ks0) 0) (uni (ns.take i) ks0).length) → Gx.Wp (iterK bot (d + 1) (fan_Lists_1_l1b k D J) a1 y1 (some mb) y2 v1 v2 sl (ns.length : Int) (i : Int) H) Q := fun d => by
 induction d with
 | zero =>
  intro i H hd kH lm gH
  obtain rfl : i = ns.length := by omega
  rw [List.take_length] at gH
  rw [iterK_s]; simp only [fan_Lists_1_l1b]
  exact Gx.Wp.ifn (by simp) (hJ H kH lm gH)
 | succ d ih =>
  intro i H hd kH lm gH
  rw [iterK_s]; simp only [fan_Lists_1_l1b]
  obtain ⟨x, hx⟩ := isome (l := ns) (i := i) (by omega)
  obtain ⟨p, b1, b2⟩ := (Row.keeps R kH).ldS hx
  obtain ⟨H2, e2, c2, n2, g2⟩ := updN gH x
  refine Gx.Wp.ifp (by simp; omega) (Gx.Wp.bnd b1 (Gx.Wp.bnd b2 (Gx.Wp.bnd rfl (Gx.Wp.bnd e2 ?_))))
  rw [Gx.w1 (by omega)]
  refine ih (i + 1) H2 (by omega) (Chg.beh kH c2 fun y hy q => by omega) (by omega) ?_
  rw [show ns.take (i + 1) = ns.take i ++ [x] by rw [List.take_add_one, hx]; rfl, uni_snoc]
  exact g2
theorem then124 (T : ThenL (lvl k) N c ib g x y len K O h) (ob : But O ib b) (hb : h.get b = some (.cells [.func (.func g) x y] 134 true 0)) (hl : len ≤ 1048576) (hk : len < k) (hk2 : 1048577 < k) : ThenP (lvl k) N (c + 1) ib 102 ⟨[]⟩ ⟨[ptr b]⟩ len (fun ys => K (namesY ys) (codesY ys)) O h := by
 intro n hn P h' m st q sub ag lt hm hP hio ys xs sl R S hys ow so sm _
 obtain ⟨n', rfl⟩ : ∃ n', n = n' + 1 := ⟨n - 1, by omega⟩
 have lb := lt _ (sub _ ob.1)
 have li := lt _ hP
 have hb' := (ag.eq _ ob).trans hb
 have lx : xs.length = len := by rw [S.1]; exact hys
 refine Does.of (X := fan_Lists_1 k (lvl k n') sl (some ⟨b, 0, none⟩) h') (by decide) (fun R κ => rfl) ?_
 simp only [fan_Lists_1]
 refine Gx.Wp.new fun H1 k1 n1 g1 => Gx.Wp.jn fun j hj => ?_
 unfold fan_Lists_1_l0
 obtain ⟨bot, eb⟩ := iterK_of (fun _ _ _ _ _ _ _ => none) (fan_Lists_1_l0b k (lvl k n') j) (show xs.length + 1 ≤ k by omega)
 rw [eb, R.len]
 have loop : ∀ (d i : Nat) (H : AHeap), i + d = xs.length → Keeps h' H → h'.next < H.next → H.get h'.next = some (.map (encN (namesA (ys.take i) []) 0) (namesA (ys.take i) []).length) → (namesA (ys.take i) []).length ≤ i * 1048576 →
   Gx.Wp (iterK bot (d + 1) (fan_Lists_1_l0b k (lvl k n') j) sl (some ⟨b, 0, none⟩) (some h'.next) sl (xs.length : Int) (i : Int) H) fun z => Chg (In P m) h' z.2 ∧ IoQ (lvl k) N ib (K (namesY ys) (codesY ys)) st (Gr P m z.2) z.2 := fun d => by
  induction d with
  | zero =>
   intro i H hd kH lm gH lk
   obtain rfl : i = xs.length := by omega
   rw [List.take_of_length_le (by rw [S.1]; exact Nat.le_refl _)] at gH lk
   have nH := kH.nx
   rw [iterK_s]; simp only [fan_Lists_1_l0b]
   subst hj
   refine Gx.Wp.ifn (by simp) ?_
   obtain ⟨H2, e2⟩ : ∃ H2, H2 = H.new (.cells [.map (some h'.next)] 146 true 0) := ⟨_, rfl⟩
   have kk : maps_Keys_map_string_bool_string_bool k (lvl k n') (some h'.next) H = some (.func (.func 116) ⟨[]⟩ ⟨[.pointer (some ⟨H.next, 0, none⟩)]⟩, H2) := by rw [e2]; rfl
   have k2 : Keeps H H2 := e2 ▸ Keeps.new H _
   have n2 : H2.next = H.next + 1 := by rw [e2]; rfl
   have g2 : H2.get H.next = some (.cells [.map (some h'.next)] 146 true 0) := by rw [e2]; simp
   have hbn : ∀ s ∈ namesA ys [], s.size ≤ 1048576 := fun s hs => by
    rcases mem_namesA.1 hs with hs | ⟨y, hy, hs⟩
    ·cases hs
    ·exact (sm y hy).s s hs
   obtain ⟨ns, H3, e3, k3, A3⟩ := sortedN g2 (k2.got lm gH) (namesA_nodup .nil) hbn (by omega)
   have n3 := k3.nx
   have kH2 : Keeps h' H2 := kH.trans k2
   have kH3 : Keeps h' H3 := kH2.trans k3
   refine Gx.Wp.bnd kk (Gx.Wp.bnd e3 (Gx.Wp.call (codes_spec (k := k) (D := lvl k n') (R.keeps kH3) (by omega) (by omega)) fun r4 q4 => ?_))
   obtain ⟨k4, A4⟩ := q4
   rw [say_codes S] at A4
   have n4 := k4.nx
   dsimp only at n4
   have kH4 : Keeps h' r4.2 := kH3.trans k4
   have hb4 := kH4.got (by omega) hb'
   refine Gx.Wp.bnd rfl (Gx.Wp.bnd (ldV_at hb4 rfl) (Gx.Wp.gp ?_ ?_))
   ·intro H5 hH
    simp at hH
    rcases hH with rfl | rfl | rfl
    ·exact bnd rfl (bnd (ldV_at (kH3.got (by omega) hb') rfl) rfl)
    ·exact bnd rfl (bnd (ldV_at (kH2.got (by omega) hb') rfl) rfl)
    ·exact bnd rfl (bnd (ldV_at (kH.got (by omega) hb') rfl) rfl)
   ·have d := T n' (by omega) P r4.2 m st q sub (ag.trans (chg_agr kH4 (fun y o => by have := lt _ (sub _ o.1); omega) fun y o f => f)) lt (by omega) hP (kH4.got (by omega) hio) (namesY ys) ns (codesY ys) r4.1 (Row.keeps A3.row k4) (fun a ha => by have := A3.lt a ha; omega) A4.row (by simp [codesY, hys]) (fun a ha => by have := A4.lt a ha; dsimp only at this; omega)
    refine Does.wp d (by kernel_rfl) fun h5 q5 => Gx.Wp.of ⟨(Chg.keeps kH4).trans q5.1, q5.2⟩
  | succ d ih =>
   intro i H hd kH lm gH lk
   rw [iterK_s]; simp only [fan_Lists_1_l0b]
   have nH := kH.nx
   obtain ⟨x, hx⟩ := isome (l := xs) (i := i) (by omega)
   obtain ⟨y, hy⟩ := isome (l := ys) (i := i) (by rw [← S.1]; omega)
   obtain ⟨s1, s2, s3⟩ := S.2 i x y hx hy
   have sy := (sm y (mem_of hy)).n
   obtain ⟨p, b1', b2, _, _⟩ := (R.keeps kH).ld encP_len (by decide) hx
   refine Gx.Wp.ifp (by simp; omega) (Gx.Wp.jn fun J hJ => Gx.Wp.bnd b1' (Gx.Wp.bnd b2 (Gx.Wp.bnd rfl (Gx.Wp.new fun H4 k4 n4 g4 => Gx.Wp.stL (sp := none) g4 rfl rfl rfl (by decide) fun H5 c5 n5 g5 => ?_))))
   dsimp only at g5 n5 ⊢
   have k5 : Keeps H H5 := Chg.beh (T := (· = H.next)) k4 c5 fun y hy q => by omega
   have kH5 := kH.trans k5
   refine Gx.Wp.bnd (sldL_at g5 rfl) ?_
   unfold fan_Lists_1_l1
   obtain ⟨bot', eb'⟩ := iterK_of (fun _ _ _ _ _ _ _ _ _ _ => none) (fan_Lists_1_l1b k (lvl k n') J) (show y.2.2.length + 1 ≤ k by omega)
   rw [eb', show ((⟨x.2.2.a, x.2.2.len, x.2.2.cap⟩ : Slc).len : Int) = (y.2.2.length : Int) by rw [s3.1]]
   refine listsJ_l1 bot' (h0 := h') (mb := h'.next) (sl := ⟨x.2.2.a, x.2.2.len, x.2.2.cap⟩) s3 (Nat.le_refl _) sy (ks0 := namesA (ys.take i) []) (fun H6 k6 l6 g6 => ?_) y.2.2.length 0 H5 (by omega) kH5 (by omega) (k5.got (by omega) gH)
   subst hJ
   dsimp only
   rw [Gx.w1 (by omega)]
   have et : ys.take (i + 1) = ys.take i ++ [y] := by rw [List.take_add_one, hy]; rfl
   refine ih (i + 1) H6 (by omega) k6 l6 ?_ ?_
   ·rw [et, namesA_snoc]; exact g6
   ·rw [et, namesA_snoc]
    have := uni_len y.2.2 (namesA (ys.take i) [])
    omega
 exact loop xs.length 0 H1 (by omega) k1 (by omega) g1 (by simp [namesA])
end
end Gt
namespace Gt
open Go Gx
def insN (n : ByteArray) : List ByteArray → List ByteArray
 | [] => [n]
 | o :: l => if bl o < bl n then o :: insN n l else if o = n then o :: l else n :: o :: l
def insAll : List ByteArray → List ByteArray → List ByteArray
 | [], o => o
 | n :: ns, o => insAll ns (insN n o)
def unionA : List Ry → List ByteArray → List ByteArray
 | [], o => o
 | y :: ys, o => unionA ys (insAll y.2.2 o)
def SrtN (L : List ByteArray) : Prop := L.Pairwise fun a b => bl a < bl b
theorem mem_insN {n x : ByteArray} : ∀ {L : List ByteArray}, x ∈ insN n L ↔ x ∈ L ∨ x = n
 | [] => by simp [insN]
 | o :: l => by
  simp only [insN]
  split
  ·rw [List.mem_cons, mem_insN (L := l), List.mem_cons]
   exact ⟨fun h => h.elim (fun h => .inl (.inl h)) fun h => h.imp .inr id, fun h => h.elim (fun h => h.imp id .inl) fun h => .inr (.inr h)⟩
  ·split
   ·rename_i q
    exact ⟨.inl, fun h => h.elim id fun h => by rw [h, ← q]; simp⟩
   ·rw [List.mem_cons (l := o :: l)]
    exact ⟨fun h => h.symm, fun h => h.symm⟩
theorem srt_insN {n : ByteArray} : ∀ {L : List ByteArray}, SrtN L → SrtN (insN n L)
 | [], _ => List.pairwise_cons.2 ⟨by simp, .nil⟩
 | o :: l, h => by
  obtain ⟨h1, h2⟩ := List.pairwise_cons.1 h
  simp only [insN]
  split
  ·rename_i c
   refine List.pairwise_cons.2 ⟨fun x hx => ?_, srt_insN h2⟩
   rcases mem_insN.1 hx with hx | rfl
   ·exact h1 x hx
   ·exact c
  ·rename_i c
   split
   ·exact h
   ·rename_i q
    have lt : bl n < bl o := by
     refine List.not_le.1 fun z => ?_
     exact q (congrArg ba (List.le_antisymm z (List.not_lt.1 c)))
    refine List.pairwise_cons.2 ⟨fun x hx => ?_, h⟩
    rcases List.mem_cons.1 hx with rfl | hx
    ·exact lt
    ·exact List.lt_trans lt (h1 x hx)
theorem srt_insAll : ∀ {ns L : List ByteArray}, SrtN L → SrtN (insAll ns L)
 | [], _, h => h
 | _ :: ns, _, h => srt_insAll (ns := ns) (srt_insN h)
theorem srt_union : ∀ {ys : List Ry} {L : List ByteArray}, SrtN L → SrtN (unionA ys L)
 | [], _, h => h
 | _ :: ys, _, h => srt_union (ys := ys) (srt_insAll h)
theorem mem_insAll {x : ByteArray} : ∀ {ns L : List ByteArray}, x ∈ insAll ns L ↔ x ∈ L ∨ x ∈ ns
 | [], _ => by simp [insAll]
 | n :: ns, L => by
  simp only [insAll, mem_insAll (ns := ns), mem_insN, List.mem_cons]
  exact ⟨fun h => h.elim (fun h => h.imp id .inl) fun h => .inr (.inr h), fun h => h.elim (fun h => .inl (.inl h)) fun h => h.elim (fun h => .inl (.inr h)) .inr⟩
theorem mem_union {x : ByteArray} : ∀ {ys : List Ry} {L : List ByteArray}, x ∈ unionA ys L ↔ x ∈ L ∨ ∃ y ∈ ys, x ∈ y.2.2
 | [], _ => by simp [unionA]
 | y :: ys, L => by
  simp only [unionA, mem_union (ys := ys), mem_insAll, List.mem_cons]
  constructor
  ·rintro ((h | h) | ⟨z, hz, h⟩)
   ·exact .inl h
   ·exact .inr ⟨y, .inl rfl, h⟩
   ·exact .inr ⟨z, .inr hz, h⟩
  ·rintro (h | ⟨z, rfl | hz, h⟩)
   ·exact .inl (.inl h)
   ·exact .inl (.inr h)
   ·exact .inr ⟨z, hz, h⟩
theorem insN_len (n : ByteArray) : ∀ L : List ByteArray, (insN n L).length ≤ L.length + 1
 | [] => by simp [insN]
 | o :: l => by
  have := insN_len n l
  simp only [insN]
  split
  ·simp only [List.length_cons]; omega
  ·split <;> simp
theorem insAll_len : ∀ ns L : List ByteArray, (insAll ns L).length ≤ L.length + ns.length
 | [], _ => Nat.le_refl _
 | n :: ns, L => by
  have h1 := insAll_len ns (insN n L)
  have h2 := insN_len n L
  simp only [insAll, List.length_cons]; omega
theorem insAll_snoc (n : ByteArray) : ∀ (ns L : List ByteArray), insAll (ns ++ [n]) L = insN n (insAll ns L)
 | [], _ => rfl
 | m :: ns, L => by simp only [List.cons_append, insAll, insAll_snoc n ns]
theorem union_snoc (y : Ry) : ∀ (ys : List Ry) (L : List ByteArray), unionA (ys ++ [y]) L = insAll y.2.2 (unionA ys L)
 | [], _ => rfl
 | z :: ys, L => by simp only [List.cons_append, unionA, union_snoc y ys]
theorem nmK_srt {ks : List ByteArray} (h : ks.Nodup) : SrtN (nmK ks) := by
 have e : (ks.map fun k => ((k, nob, 0) : En)).map (·.1) = ks := by rw [List.map_map]; exact List.map_id _
 have := nm_sorted (es := ks.map fun k => ((k, nob, 0) : En)) (by rw [e]; exact h)
 unfold nm at this
 rw [e] at this
 exact this
theorem nmK_mem {x : ByteArray} {ks : List ByteArray} : x ∈ nmK ks ↔ x ∈ ks := by
 simp only [nmK, List.mem_map, List.mem_mergeSort]
 exact ⟨fun ⟨l, ⟨m, hm, e⟩, e2⟩ => by subst e; subst e2; exact hm, fun h => ⟨bl x, ⟨x, h, rfl⟩, rfl⟩⟩
theorem union_eq (ys : List Ry) : unionA ys [] = namesY ys := by
 have s1 : SrtN (unionA ys []) := srt_union .nil
 have s2 : SrtN (namesY ys) := nmK_srt (namesA_nodup .nil)
 have nd : ∀ {L : List ByteArray}, SrtN L → L.Nodup := fun h => List.Pairwise.imp (fun {a b} h (q : a = b) => by rw [q] at h; exact bl_irr h) h
 refine List.Perm.eq_of_pairwise (le := fun a b => bl a < bl b) (fun a b _ _ h1 h2 => absurd (List.lt_trans h1 h2) bl_irr) s1 s2 ((List.perm_ext_iff_of_nodup (nd s1) (nd s2)).2 fun x => ?_)
 unfold namesY
 rw [nmK_mem, mem_union, mem_namesA]
def ui (n : ByteArray) : List ByteArray → Nat
 | [] => 0
 | o :: l => if bl o < bl n then ui n l + 1 else 0
theorem ui_le (n : ByteArray) : ∀ L : List ByteArray, ui n L ≤ L.length
 | [] => Nat.le_refl _
 | o :: l => by
  have := ui_le n l
  simp only [ui]
  split
  ·simp only [List.length_cons]; omega
  ·exact Nat.zero_le _
theorem ui_hit {n : ByteArray} : ∀ {L : List ByteArray}, L[ui n L]? = some n → insN n L = L
 | [], h => by simp [ui] at h
 | o :: l, h => by
  simp only [ui] at h
  simp only [insN]
  split
  ·rename_i c
   rw [if_pos c] at h
   rw [ui_hit (L := l) (by simpa using h)]
  ·rename_i c
   rw [if_neg c] at h
   have : o = n := by simpa using h
   rw [if_pos this]
theorem ui_no {n : ByteArray} : ∀ {L : List ByteArray}, L[ui n L]? ≠ some n → insN n L = L.take (ui n L) ++ n :: L.drop (ui n L)
 | [], _ => rfl
 | o :: l, h => by
  simp only [ui] at h ⊢
  simp only [insN]
  by_cases c : bl o < bl n
  ·rw [if_pos c] at h ⊢
   rw [if_pos c, ui_no (L := l) (by simpa using h)]; rfl
  ·rw [if_neg c] at h ⊢
   rw [if_neg c, if_neg (by simpa using h)]; rfl
end Gt
namespace Gt
open Go Gx
variable {F : Nat → Prop}
theorem pushE {α : Type} {w : Nat} {enc : α → List Value} {e : TypeId} {base bytes : Nat} {h H : AHeap} {s : Slc} {xs : List α} (A : AccW w enc e base h s xs) (hw : ∀ x, (enc x).length = w) (ho : ∀ x, allOne (enc x) = true) (x : α) (eH : H = h.new (.cells (enc x) e true 0)) (h1 : 1 ≤ bytes) (hs : 2 * (xs.length + 1) * bytes ≤ 281474976710656) (hbase : base ≤ h.next) :
  ∃ s' h', rdS w (⟨some ⟨h.next, 0, some 0⟩, 1, 1⟩ : Slc) H = some (enc x) ∧ appendA w bytes e H s (enc x) 1 = some (s', h') ∧ AccW w enc e base h' s' (xs ++ [x]) ∧ Chg (ofS s) h h' ∧ ∀ a, s'.a = some a → h.next ≤ a.block := by
 subst eH
 obtain ⟨s', h', a, A', c, d⟩ := A.push hw ho x h1 hs hbase
 exact ⟨s', h', rdS_oneW hw x e, a, A', c, d⟩
def eachN (kind : Int) (name data : ByteArray) (n : Nat) : List Rq := (List.range n).map fun i : Nat => ((i : Int), kind, name, data)
theorem eachN_s (kind : Int) (name data : ByteArray) (n : Nat) : eachN kind name data (n + 1) = eachN kind name data n ++ [((n : Int), kind, name, data)] := by
 simp [eachN, List.range_succ]
theorem eachN_len (kind : Int) (name data : ByteArray) (n : Nat) : (eachN kind name data n).length = n := by simp [eachN]
theorem eachN_ask {kind : Int} {name : ByteArray} {n : Int} (hm : may n = true) : askL n kind name nob = eachN kind name nob n.toNat := by
 unfold askL
 rw [if_pos hm]; rfl
theorem TSet_ansRL (y : Nat) : ∀ (qs : List Rq) (ts : List Tb), TSet (ansRL qs ts).1 y ↔ TSet ts y
 | [], _ => Iff.rfl
 | q :: qs, ts => (TSet_ansRL y qs _).trans (TSet_ans ts q y)
theorem TSet_lt {h : AHeap} {sl : Slc} {m : Nat} {ts : List Tb} (T : Rts F h sl m ts) {y : Nat} (z : TSet ts y) : y < h.next := by
 obtain ⟨t, ht, rfl⟩ := z
 obtain ⟨i, hi⟩ := List.getElem?_of_mem ht
 exact ((T.st i t hi).1).lt
theorem AccW.ty {α : Type} {w : Nat} {enc : α → List Value} {e : TypeId} {base : Nat} {h : AHeap} {s : Slc} {xs : List α} (A : AccW w enc e base h s xs) {y : Nat} (z : ofS s y) : ∃ c rw fz, h.get y = some (.cells c e rw fz) := by
 obtain ⟨a, ha, rfl⟩ := z
 rcases A.st with ⟨rfl, _⟩ | ⟨b, rfl, h2, _⟩
 ·cases ha
 ·cases ha; exact ⟨_, _, _, h2⟩
theorem Acc.ty {α : Type} {enc : α → Value} {e : TypeId} {base : Nat} {h : AHeap} {s : Slc} {xs : List α} (A : Gx.Acc enc e base h s xs) {y : Nat} (z : ofS s y) : ∃ c rw fz, h.get y = some (.cells c e rw fz) := by
 obtain ⟨a, ha, rfl⟩ := z
 obtain ⟨c, g⟩ := acc_blk A ha
 exact ⟨c, _, _, g⟩
theorem Rts.of {S : Nat → Prop} {h h' : AHeap} {sl : Slc} {m : Nat} {ts : List Tb} (T : Rts F h sl m ts) (c : Chg S h h') (ge : ∀ y, S y → ¬ TSet ts y ∧ (∃ c e rw fz, h.get y = some (.cells c e rw fz) ∧ e ≠ 96) ∧ ∀ a, sl.a = some a → y ≠ a.block) : Rts F h' sl m ts :=
 T.apartE c (fun y hy => ⟨(ge y hy).1, (ge y hy).2.1⟩) fun a ha q => (ge _ q).2.2 a ha rfl
section
variable {k : Nat} {D : CallF} {h : AHeap} {sl : Slc} {m : Nat} {ss : List Sb} {ts : List Tb}
structure AllQ (h0 : AHeap) (H : AHeap) (o : Slc) (ys : List Ry) (xs : List Rp) : Prop where
 ac : AccW 3 encP 59 h0.next H o xs
 say : Say H xs ys
 ad : ∀ (i : Nat) (x : Rp), xs[i]? = some x → ∀ a, x.2.2.a = some a → h0.next < a.block ∧ a.block < H.next ∧ ¬ ofS o a.block
theorem rAll_spec (T : Rts F h sl m ts) (B : Bth ss ts) (sla : ∀ a, sl.a = some a → a.block < h.next) (n : Nat) (hn : n ≤ 255) (kind : Int) (name data : ByteArray) (st : Int) (hm : m + n ≤ 50000) (hk : 100000 < k) :
  Gx.Wp (ref09_All k D sl (n : Int) (st, kind, name, data) h) fun z => ∃ xs, Chg (TSet ts) h z.2 ∧ Rts F z.2 sl (m + n) (ansRL (eachN kind name data n) ts).1 ∧ AllQ h z.2 z.1 (ansRL (eachN kind name data n) ts).2 xs := by
 simp only [ref09_All]
 refine Gx.Wp.new fun H1 k1 n1 g1 => Gx.Wp.jn fun j hj => ?_
 unfold ref09_All_l0
 obtain ⟨bot, eb⟩ := iterK_of (fun _ _ _ _ _ _ => none) (ref09_All_l0b k D j) (show n + 1 ≤ k by omega)
 rw [eb]
 have loop : ∀ (d i : Nat) (H : AHeap) (o : Slc) (xs : List Rp) (v : Int), i + d = n → Chg (TSet ts) h H → h.next < H.next → H.get h.next = some (.cells [.int .i64 v, .int .i64 kind, .string name, .string data] 51 true 0) → Rts F H sl (m + i) (ansRL (eachN kind name data i) ts).1 → AllQ h H o (ansRL (eachN kind name data i) ts).2 xs → (∀ a, o.a = some a → a.block ≠ h.next) →
   Gx.Wp (iterK bot (d + 1) (ref09_All_l0b k D j) sl (n : Int) (some ⟨h.next, 0, none⟩) o (i : Int) H) fun z => ∃ xs, Chg (TSet ts) h z.2 ∧ Rts F z.2 sl (m + n) (ansRL (eachN kind name data n) ts).1 ∧ AllQ h z.2 z.1 (ansRL (eachN kind name data n) ts).2 xs := fun d => by
  induction d with
  | zero =>
   intro i H o xs v hd c lt g TH Q _
   obtain rfl : i = n := by omega
   rw [iterK_s]; simp only [ref09_All_l0b]
   subst hj
   exact Gx.Wp.ifn (by simp) (Gx.Wp.of ⟨xs, c, TH, Q⟩)
  | succ d ih =>
   intro i H o xs v hd c lt g TH Q no
   rw [iterK_s]; simp only [ref09_All_l0b]
   have ltT : ∀ y, TSet (ansRL (eachN kind name data i) ts).1 y → y < h.next := fun y z => TSet_lt T ((TSet_ansRL y _ _).1 z)
   refine Gx.Wp.ifp (by simp; omega) (Gx.Wp.bnd rfl (Gx.Wp.st (sp := none) g (by show 0 + 0 < 4; omega) rfl fun H2 (c2 : Chg (· = h.next) H H2) n2 g2 => Gx.Wp.bnd rfl (Gx.Wp.bnd (sldA_at g2 rfl) (Gx.Wp.bnd rfl ?_))))
   have g2 : H2.get h.next = some (.cells [.int .i64 (i : Int), .int .i64 kind, .string name, .string data] 51 true 0) := g2
   have T2 : Rts F H2 sl (m + i) (ansRL (eachN kind name data i) ts).1 := TH.of c2 fun y hy => by
    subst hy
    exact ⟨fun z => by have := ltT _ z; omega, ⟨_, _, _, _, g, by decide⟩, fun a ha q => by have := sla a ha; omega⟩
   have B2 := (both_all (qs := eachN kind name data i) B).2
   refine Gx.Wp.call (RAnswer_spec D T2 ((i : Int), kind, name, data) (by omega) (by omega) (by omega) (B2.tot T2 (by omega))) fun r3 q3 => ?_
   obtain ⟨c3, T3, e1, e2, A3⟩ := q3
   have n3 := c3.nx
   have es : (ansRL (eachN kind name data (i + 1)) ts) = ((ansR (ansRL (eachN kind name data i) ts).1 ((i : Int), kind, name, data)).1, (ansRL (eachN kind name data i) ts).2 ++ [(ansR (ansRL (eachN kind name data i) ts).1 ((i : Int), kind, name, data)).2]) := by
    rw [eachN_s, ansRL_snoc]
   refine Gx.Wp.newE fun H4 e4 k4 n4 g4 => ?_
   have c3' : Chg (TSet ts) H2 r3.2 := c3.wk fun y _ z => (TSet_ansRL y _ _).1 z
   have ltT0 : ∀ y, TSet ts y → y < h.next := fun y z => TSet_lt T z
   have apo : ∀ a, o.a = some a → ¬ TSet ts a.block := fun a ha z => by have := (Q.ac.lt a ha).2; have := ltT0 _ z; omega
   have Q2 : AccW 3 encP 59 h.next H2 o xs := Q.ac.chg c2 fun a ha q => no a ha q
   have Q3 : AccW 3 encP 59 h.next r3.2 o xs := Q2.chg c3' fun a ha q => apo a ha q
   have lx : xs.length ≤ i := by rw [Q.say.1, ansRL_len, eachN_len]; exact Nat.le_refl _
   obtain ⟨s', h9, a1, a2, A', c9, d9⟩ := pushE Q3 encP_len encP_one (r3.1.1, r3.1.2.1, r3.1.2.2) (bytes := 48) e4 (by decide) (by omega) (by omega)
   refine Gx.Wp.bnd a1 (Gx.Wp.bnd a2 ?_)
   have n9 := c9.nx
   rw [Gx.w1 (by omega)]
   have c29 : Chg (fun y => TSet ts y ∨ ofS o y) H2 h9 := (c3'.wk fun y _ z => .inl z).trans (c9.wk fun y _ z => .inr z)
   have nho : ¬ ofS o h.next := fun ⟨a, ha, q⟩ => no a ha q.symm
   refine ih (i + 1) h9 s' (xs ++ [(r3.1.1, r3.1.2.1, r3.1.2.2)]) (i : Int) (by omega) ?_ (by omega) ?_ ?_ ⟨A', ?_, ?_⟩ ?_
   ·refine Chg.beh (T := fun y => ofS o y) (Chg.trans (Chg.beh (T := (· = h.next)) c c2 fun y hy q => by omega) c3') c9 fun y hy ⟨a, ha, q⟩ => ?_
    have := (Q.ac.lt a ha).2; omega
   ·exact c29.got (by omega) (fun z => z.elim (fun z => by have := ltT0 _ z; omega) nho) g2
   ·rw [es]
    refine T3.of c9 fun y hy => ⟨fun z => ?_, ?_, fun a ha q => ?_⟩
    ·obtain ⟨a, ha, q⟩ := hy
     have := (Q.ac.lt a ha).2
     have := ltT _ ((TSet_ans _ _ y).1 z)
     omega
    ·obtain ⟨c', rw', fz', g'⟩ := AccW.ty Q3 hy
     exact ⟨c', _, rw', fz', g', by decide⟩
    ·obtain ⟨b, hb, q2⟩ := hy
     have := (Q.ac.lt b hb).2
     have := sla a ha
     omega
   ·rw [es]
    refine ⟨by simp [Q.say.1], fun a u w hu hw => ?_⟩
    by_cases ci : a < xs.length
    ·rw [List.getElem?_append_left ci] at hu
     rw [List.getElem?_append_left (by rw [← Q.say.1]; exact ci)] at hw
     obtain ⟨z1, z2, z3⟩ := Q.say.2 a u w hu hw
     refine ⟨z1, z2, Row.chg (Row.chg z3 c2 fun b hb q => ?_) c29 fun b hb q => ?_⟩
     ·have := Q.ad a u hu b hb; omega
     ·have w := Q.ad a u hu b hb
      rcases q with q | q
      ·have := ltT0 _ q; omega
      ·exact w.2.2 q
    ·have la := (List.getElem?_eq_some_iff.1 hu).1
     simp only [List.length_append, List.length_cons, List.length_nil] at la
     have ea : a = xs.length := by omega
     subst ea
     rw [List.getElem?_append_right (Nat.le_refl _), Nat.sub_self] at hu
     rw [List.getElem?_append_right (by rw [← Q.say.1]; exact Nat.le_refl _), ← Q.say.1, Nat.sub_self] at hw
     simp at hu hw
     subst hu hw
     exact ⟨e1, e2, Row.chg A3.row c9 fun b hb ⟨a, ha, q⟩ => by have := (A3.lt b hb).2; have := (Q.ac.lt a ha).1; omega⟩
   ·intro a u hu b hb
    by_cases ci : a < xs.length
    ·rw [List.getElem?_append_left ci] at hu
     have w := Q.ad a u hu b hb
     exact ⟨w.1, by omega, fun ⟨x, hx, q⟩ => by have := d9 x hx; omega⟩
    ·have la := (List.getElem?_eq_some_iff.1 hu).1
     simp only [List.length_append, List.length_cons, List.length_nil] at la
     have ea : a = xs.length := by omega
     subst ea
     rw [List.getElem?_append_right (Nat.le_refl _), Nat.sub_self] at hu
     simp at hu
     subst hu
     have w := A3.lt b hb
     exact ⟨by omega, by omega, fun ⟨x, hx, q⟩ => by have := d9 x hx; omega⟩
   ·intro a ha q
    have := d9 a ha; omega
 refine loop n 0 H1 nils [] st (by omega) (Chg.keeps k1) (by omega) g1 (T.keeps k1) ⟨AccW.nil _ _ _ _ _, ⟨rfl, fun i x y hx => by simp at hx⟩, fun i x hx => by simp at hx⟩ fun a ha => by cases ha
end
end Gt
namespace Gt
open Go Gx
variable {F : Nat → Prop}
section
variable {k : Nat} {D : CallF} {h : AHeap}
theorem rCodes_spec {sl : Slc} {xs : List Rp} (R : RowW 3 encP h sl xs) (hl : xs.length ≤ 1048576) (hk : xs.length < k) : Gx.Wp (ref09_Codes k D sl h) fun z => Keeps h z.2 ∧ Gx.Acc encI 27 h.next z.2 z.1 (xs.map (·.1)) := by
 simp only [ref09_Codes]
 refine Gx.Wp.jn fun j hj => ?_
 unfold ref09_Codes_l0
 obtain ⟨bot, eb⟩ := iterK_of (fun _ _ _ _ => none) (ref09_Codes_l0b k D j) (show xs.length + 1 ≤ k by omega)
 rw [eb]
 have loop : ∀ (d i : Nat) (o : Slc) (h' : AHeap), i + d = xs.length → Keeps h h' → Gx.Acc encI 27 h.next h' o ((xs.take i).map (·.1)) → Gx.Wp (iterK bot (d + 1) (ref09_Codes_l0b k D j) sl o (i : Int) h') fun z => Keeps h z.2 ∧ Gx.Acc encI 27 h.next z.2 z.1 (xs.map (·.1)) := fun d => by
  induction d with
  | zero =>
   intro i o h' hd kp A
   obtain rfl : i = xs.length := by omega
   rw [List.take_length] at A
   rw [iterK_s]; simp only [ref09_Codes_l0b]
   subst hj
   exact Gx.Wp.ifn (by rw [R.len]; simp) (Gx.Wp.of ⟨kp, A⟩)
  | succ d ih =>
   intro i o h' hd kp A
   rw [iterK_s]; simp only [ref09_Codes_l0b]
   have np := kp.nx
   obtain ⟨x, hx⟩ := isome (l := xs) (i := i) (by omega)
   obtain ⟨p, b1, _, b2, _⟩ := (R.keeps kp).ld encP_len (by decide) hx
   refine Gx.Wp.ifp (by rw [R.len]; simp; omega) (Gx.Wp.bnd b1 (Gx.Wp.bnd (b2 0 .i64 x.1 rfl) (Gx.Wp.newE fun H3 e3 k3 n3 g3 => ?_)))
   obtain ⟨s', h9, a1, a2, A', c9, d9⟩ := Acc.pushK A encI_one x.1 (bytes := 8) e3 (by simp; omega) (by decide) (by omega)
   refine Gx.Wp.bnd a1 (Gx.Wp.bnd a2 ?_)
   rw [Gx.w1 (by omega)]
   refine ih (i + 1) s' h9 (by omega) (Chg.beh kp c9 fun y hy ⟨a, ha, q⟩ => by have := (A.lt a ha).2; omega) ?_
   rw [show xs.take (i + 1) = xs.take i ++ [x] by rw [List.take_add_one, hx]; rfl, List.map_append]
   exact A'
 exact loop xs.length 0 _ h (by omega) (.refl _ _) (Acc.nil _ _ _ _)
def putN (name : ByteArray) (data : List ByteArray) (n : Nat) : List Rq := (List.range n).map fun i : Nat => ((i : Int), (1 : Int), name, (data[i]?).getD nob)
theorem putN_s (name : ByteArray) (data : List ByteArray) (n : Nat) : putN name data (n + 1) = putN name data n ++ [((n : Int), 1, name, (data[n]?).getD nob)] := by
 simp [putN, List.range_succ]
theorem putN_len (name : ByteArray) (data : List ByteArray) (n : Nat) : (putN name data n).length = n := by simp [putN]
theorem putN_eq {name : ByteArray} {data : List ByteArray} (hm : may data.length = true) : putsL name data = putN name data data.length := by
 unfold putsL
 rw [if_pos hm]; rfl
theorem codesY_app (a b : List Ry) : codesY (a ++ b) = codesY a ++ codesY b := by simp [codesY]
variable {sl : Slc} {m : Nat} {ss : List Sb} {ts : List Tb}
theorem rPuts_spec (T : Rts F h sl m ts) (B : Bth ss ts) (sla : ∀ a, sl.a = some a → a.block < h.next) (name : ByteArray) {dl : Slc} {data : List ByteArray} (R : Row encS h dl data) (dla : ∀ a, dl.a = some a → ¬ TSet ts a.block) (hn : data.length ≤ 255) (hm : m + data.length ≤ 50000) (hk : 100000 < k) :
  Gx.Wp (ref09_Puts k D sl name dl h) fun z => Chg (TSet ts) h z.2 ∧ Rts F z.2 sl (m + data.length) (ansRL (putN name data data.length) ts).1 ∧ Gx.Acc encI 27 h.next z.2 z.1 (codesY (ansRL (putN name data data.length) ts).2) := by
 simp only [ref09_Puts]
 refine Gx.Wp.jn fun j hj => ?_
 unfold ref09_Puts_l0
 obtain ⟨bot, eb⟩ := iterK_of (fun _ _ _ _ _ _ => none) (ref09_Puts_l0b k D j) (show data.length + 1 ≤ k by omega)
 rw [eb]
 have ltT0 : ∀ y, TSet ts y → y < h.next := fun y z => TSet_lt T z
 have loop : ∀ (d i : Nat) (H : AHeap) (o : Slc), i + d = data.length → Chg (TSet ts) h H → Rts F H sl (m + i) (ansRL (putN name data i) ts).1 → Gx.Acc encI 27 h.next H o (codesY (ansRL (putN name data i) ts).2) →
   Gx.Wp (iterK bot (d + 1) (ref09_Puts_l0b k D j) sl name dl o (i : Int) H) fun z => Chg (TSet ts) h z.2 ∧ Rts F z.2 sl (m + data.length) (ansRL (putN name data data.length) ts).1 ∧ Gx.Acc encI 27 h.next z.2 z.1 (codesY (ansRL (putN name data data.length) ts).2) := fun d => by
  induction d with
  | zero =>
   intro i H o hd c TH A
   obtain rfl : i = data.length := by omega
   rw [iterK_s]; simp only [ref09_Puts_l0b]
   subst hj
   exact Gx.Wp.ifn (by rw [R.1]; simp) (Gx.Wp.of ⟨c, TH, A⟩)
  | succ d ih =>
   intro i H o hd c TH A
   rw [iterK_s]; simp only [ref09_Puts_l0b]
   have nH := c.nx
   obtain ⟨x, hx⟩ := isome (l := data) (i := i) (by omega)
   obtain ⟨p, b1, b2⟩ := (Row.chg R c fun a ha => dla a ha).ldS hx
   have B2 := (both_all (qs := putN name data i) B).2
   refine Gx.Wp.ifp (by rw [R.1]; simp; omega) (Gx.Wp.bnd b1 (Gx.Wp.bnd b2 (Gx.Wp.call (RAnswer_spec D TH ((i : Int), 1, name, x) (by omega) (by omega) (by omega) (B2.tot TH (by omega))) fun r3 q3 => ?_)))
   obtain ⟨c3, T3, e1, e2, A3⟩ := q3
   have n3 := c3.nx
   have es : (ansRL (putN name data (i + 1)) ts) = ((ansR (ansRL (putN name data i) ts).1 ((i : Int), 1, name, x)).1, (ansRL (putN name data i) ts).2 ++ [(ansR (ansRL (putN name data i) ts).1 ((i : Int), 1, name, x)).2]) := by
    rw [putN_s, ansRL_snoc, hx]; rfl
   have ltT : ∀ y, TSet (ansRL (putN name data i) ts).1 y → y < h.next := fun y z => ltT0 y ((TSet_ansRL y _ _).1 z)
   have c3' : Chg (TSet ts) H r3.2 := c3.wk fun y _ z => (TSet_ansRL y _ _).1 z
   have A2 : Gx.Acc encI 27 h.next r3.2 o (codesY (ansRL (putN name data i) ts).2) := A.chg c3' fun a ha z => by have := (A.lt a ha).2; have := ltT0 _ z; omega
   refine Gx.Wp.newE fun H4 e4 k4 n4 g4 => ?_
   have lc : (codesY (ansRL (putN name data i) ts).2).length = i := by simp [codesY, ansRL_len, putN_len]
   obtain ⟨s', h9, a1, a2, A', c9, d9⟩ := Acc.pushK A2 encI_one r3.1.1 (bytes := 8) e4 (by omega) (by decide) (by omega)
   refine Gx.Wp.bnd a1 (Gx.Wp.bnd a2 ?_)
   rw [Gx.w1 (by omega)]
   refine ih (i + 1) h9 s' (by omega) (Chg.beh (T := fun y => ofS o y) (c.trans c3') c9 fun y hy ⟨a, ha, q⟩ => by have := (A.lt a ha).2; omega) ?_ ?_
   ·rw [es]
    refine T3.of c9 fun y hy => ⟨fun z => ?_, ?_, fun a ha q => ?_⟩
    ·obtain ⟨a, ha, q⟩ := hy
     have := (A.lt a ha).2
     have := ltT _ ((TSet_ans _ _ y).1 z)
     omega
    ·obtain ⟨c', rw', fz', g'⟩ := Acc.ty A2 hy
     exact ⟨c', _, rw', fz', g', by decide⟩
    ·obtain ⟨b, hb, q2⟩ := hy
     have := (A.lt b hb).2
     have := sla a ha
     omega
   ·rw [es, codesY_app]
    rw [e1] at A'
    exact A'
 exact loop data.length 0 h nils (by omega) (Chg.refl _ _) T (Acc.nil _ _ _ _)
theorem ui_lt {n : ByteArray} : ∀ {L : List ByteArray} {i : Nat}, i < ui n L → ∃ x, L[i]? = some x ∧ bl x < bl n
 | [], i, h => by simp [ui] at h
 | o :: l, i, h => by
  simp only [ui] at h
  split at h
  ·rename_i c
   cases i with
   | zero => exact ⟨o, rfl, c⟩
   | succ i => exact ui_lt (L := l) (by omega)
  ·omega
theorem ui_ge {n : ByteArray} : ∀ {L : List ByteArray} {x : ByteArray}, L[ui n L]? = some x → ¬ bl x < bl n
 | [], x, h => by simp at h
 | o :: l, x, h => by
  simp only [ui] at h
  split at h
  ·exact ui_ge (L := l) (by simpa using h)
  ·rename_i c
   simp at h; subst h; exact c
theorem union_l2 (bot) {a : Slc} {ou : Slc} {i kv : Int} {n : ByteArray} {L : List ByteArray} (R : Row encS h ou L) (hl : L.length ≤ 1099511627776) {Q : Slc × AHeap → Prop} {J} (hJ : Gx.Wp (J a ou i kv n (ui n L : Int) h) Q) :
  ∀ (d p : Nat), p + d = ui n L → Gx.Wp (iterK bot (d + 1) (ref09_Union_l2b k D J) a ou i kv n (p : Int) h) Q := fun d => by
 have le := ui_le n L
 induction d with
 | zero =>
  intro p hd
  obtain rfl : p = ui n L := by omega
  rw [iterK_s]; simp only [ref09_Union_l2b]
  refine Gx.Wp.jn fun j hj => ?_
  by_cases c : ui n L < L.length
  ·obtain ⟨x, hx⟩ := isome c
   obtain ⟨q, q1, q2⟩ := R.ldS hx
   refine Gx.Wp.ifp (by rw [R.1]; simp; omega) (Gx.Wp.bnd q1 (Gx.Wp.bnd q2 ?_))
   rw [less_eq, decide_eq_false (ui_ge hx)]
   subst hj
   exact Gx.Wp.ifn (fun z => by cases z) hJ
  ·refine Gx.Wp.ifn (by rw [R.1]; simp; omega) ?_
   subst hj
   exact Gx.Wp.ifn (fun z => by cases z) hJ
 | succ d ih =>
  intro p hd
  rw [iterK_s]; simp only [ref09_Union_l2b]
  refine Gx.Wp.jn fun j hj => ?_
  obtain ⟨x, hx, lt⟩ := ui_lt (L := L) (n := n) (i := p) (by omega)
  obtain ⟨q, q1, q2⟩ := R.ldS hx
  have := (List.getElem?_eq_some_iff.1 hx).1
  refine Gx.Wp.ifp (by rw [R.1]; simp; omega) (Gx.Wp.bnd q1 (Gx.Wp.bnd q2 ?_))
  rw [less_eq, decide_eq_true lt]
  subst hj
  refine Gx.Wp.ifp rfl ?_
  rw [Gx.w1 (by omega)]
  exact ih (p + 1) (by omega)
end
end Gt
namespace Gt
open Go Gx
variable {F : Nat → Prop}
theorem rowP_ld {h : AHeap} {s : Slc} {xs : List Rp} {i : Nat} {x : Rp} (R : RowW 3 encP h s xs) (hx : xs[i]? = some x) : ∃ q, Gx.idxL 3 s (i : Int) = some q ∧ Gx.ldL ⟨q.block, q.off + 2, none⟩ h = some ⟨x.2.2.a, x.2.2.len, x.2.2.cap⟩ ∧ Gx.ldI .i64 ⟨q.block, q.off + 0, none⟩ h = some x.1 ∧ Gx.ldS ⟨q.block, q.off + 1, none⟩ h = some x.2.1 := by
 obtain ⟨a, c, e, r, fz, h1, h2, h3, h4⟩ := R.at' i x hx
 have hi : i < s.len := by rw [R.len]; exact (List.getElem?_eq_some_iff.1 hx).1
 refine ⟨⟨a.block, a.off + i * 3, none⟩, ?_, sldL_at h3 (h4 2 _ rfl), sldI_at h3 (h4 0 _ rfl), ldS_at h3 (h4 1 _ rfl)⟩
 simp only [idxL, h1]
 rw [if_pos (by omega), Int.toNat_natCast]
section
variable {k : Nat} {D : CallF} {h0 : AHeap}
theorem union_ins {H : AHeap} {ou : Slc} {L : List ByteArray} {n : ByteArray} (A : AccV 1 encS1 9 h0.next H ou L) (hb : h0.next ≤ H.next) (hl : L.length ≤ 1099511627776) {R : Type} {Q : R → Prop} {f : Slc → AHeap → Option R}
  (hf : ∀ s' H', AccV 1 encS1 9 h0.next H' s' (L.take (ui n L) ++ n :: L.drop (ui n L)) → Keeps H H' → Gx.Wp (f s' H') Q) :
  Gx.Wp ((Gx.subL 1 ou none (some (ui n L : Int)) none).bind fun l49 => (rdS 1 l49 H).bind fun n51 => (appendA 1 16 9 H (⟨none, 0, 0⟩ : Slc) n51 l49.len).bind fun r50 => newK r50.2 (.cells [.string n] 9 true 0) fun h52 => (rdS 1 (⟨some ⟨r50.2.next, 0, some 0⟩, 1, 1⟩ : Slc) h52).bind fun n54 => (appendA 1 16 9 h52 r50.1 n54 1).bind fun r53 => (Gx.subL 1 ou (some (ui n L : Int)) none none).bind fun l55 => (rdS 1 l55 r53.2).bind fun n57 => (appendA 1 16 9 r53.2 r53.1 n57 l55.len).bind fun r56 => f r56.1 r56.2) Q := by
 have hi := ui_le n L
 have len := (A.row encS1_len).len
 obtain ⟨t1, u1, u2, u3⟩ := A.sub (lo := none) (hi := some (ui n L : Int)) (i := 0) (j := ui n L) encS1_len rfl rfl (Nat.zero_le _) hi
 refine Gx.Wp.bnd u1 (Gx.Wp.bnd (u3 H A) ?_)
 have hn : t1.len = (L.take (ui n L)).length := by rw [u2]; simp; omega
 rw [hn, List.drop_zero]
 obtain ⟨s7, h7, a7, A7, c7, d7⟩ := (AccV.nil 1 encS1 9 H.next H).app encS1_len encS1_one (L.take (ui n L)) (bytes := 16) (by decide) (by simp; omega) (Nat.le_refl _)
 refine Gx.Wp.bnd a7 ?_
 have k7 : Keeps H h7 := c7.wk fun y _ ⟨a, ha, _⟩ => by cases ha
 have n7 := k7.nx
 refine Gx.Wp.newE fun h8 e8 k8 n8 g8 => ?_
 have rd8 : Gx.rdS 1 (⟨some ⟨h7.next, 0, some 0⟩, 1, 1⟩ : Slc) h8 = some (encS1 n) := e8 ▸ rdS_oneW encS1_len n 9
 refine Gx.Wp.bnd rd8 ?_
 have A8 := A7.keeps k8
 dsimp only at n8
 obtain ⟨s9, h9, a9, A9, c9, d9⟩ := A8.app encS1_len encS1_one [n] (bytes := 16) (by decide) (by simp; omega) (by omega)
 have ef : [n].flatMap encS1 = encS1 n := by simp
 rw [ef] at a9
 refine Gx.Wp.bnd a9 ?_
 have n9 := c9.nx
 have k9 : Keeps H h9 := Chg.beh (k7.trans k8) c9 fun y hy ⟨a, ha, q⟩ => by have := (A7.lt a ha).2; omega
 have AL9 := A.keeps k9
 obtain ⟨t2, v1, v2, v3⟩ := AL9.sub (lo := some (ui n L : Int)) (hi := none) (i := ui n L) (j := L.length) encS1_len rfl (by simp [len]) hi (Nat.le_refl _)
 refine Gx.Wp.bnd v1 (Gx.Wp.bnd (v3 h9 AL9) ?_)
 have hn2 : t2.len = (L.drop (ui n L)).length := by rw [v2]; simp
 rw [hn2, List.take_length]
 obtain ⟨s11, h11, a11, A11, c11, d11⟩ := A9.app encS1_len encS1_one (L.drop (ui n L)) (bytes := 16) (by decide) (by simp; omega) (by omega)
 refine Gx.Wp.bnd a11 ?_
 have k11 : Keeps H h11 := Chg.beh k9 c11 fun y hy ⟨a, ha, q⟩ => by have := (A9.lt a ha).2; omega
 refine hf s11 h11 ?_ k11
 have e1 : L.take (ui n L) ++ n :: L.drop (ui n L) = [] ++ L.take (ui n L) ++ [n] ++ L.drop (ui n L) := by simp
 rw [e1]
 exact ⟨A11.st, fun a ha => ⟨(A11.lt a ha).1, by have := (A11.lt a ha).2; omega⟩⟩
theorem union_l1 (bot) {l : Slc} {xs : List Rp} {i : Nat} {x : Rp} {ns : List ByteArray} (R : RowW 3 encP h0 l xs) (hx : xs[i]? = some x) (N : Row encS h0 x.2.2 ns) (hn : ns.length ≤ 1048576) {L0 : List ByteArray} (hL : L0.length ≤ 300000000) (hk : 400000000 ≤ k) {Q : Slc × AHeap → Prop} {J}
  (hJ : ∀ ou H, Keeps h0 H → AccV 1 encS1 9 h0.next H ou (insAll ns L0) → Gx.Wp (J l ou (i : Int) H) Q) :
  ∀ (d c : Nat) (ou : Slc) (H : AHeap), c + d = ns.length → Keeps h0 H → AccV 1 encS1 9 h0.next H ou (insAll (ns.take c) L0) → Gx.Wp (iterK bot (d + 1) (ref09_Union_l1b k D J) l ou (i : Int) (c : Int) H) Q := fun d => by
 induction d with
 | zero =>
  intro c ou H hd kH A
  obtain rfl : c = ns.length := by omega
  rw [List.take_length] at A
  rw [iterK_s]; simp only [ref09_Union_l1b]
  obtain ⟨q, q1, q2, _⟩ := rowP_ld (R.keeps kH) hx
  exact Gx.Wp.bnd q1 (Gx.Wp.bnd q2 (Gx.Wp.ifn (by rw [N.1]; simp) (hJ ou H kH A)))
 | succ d ih =>
  intro c ou H hd kH A
  rw [iterK_s]; simp only [ref09_Union_l1b]
  obtain ⟨q, q1, q2, _⟩ := rowP_ld (R.keeps kH) hx
  obtain ⟨n, hn'⟩ := isome (l := ns) (i := c) (by omega)
  obtain ⟨p, p1, p2⟩ := (Row.keeps N kH).ldS hn'
  refine Gx.Wp.bnd q1 (Gx.Wp.bnd q2 (Gx.Wp.ifp (by rw [N.1]; simp; omega) (Gx.Wp.jn fun j27 hj27 => Gx.Wp.bnd q1 (Gx.Wp.bnd q2 (Gx.Wp.bnd p1 (Gx.Wp.bnd p2 (Gx.Wp.jn fun j39 hj39 => ?_)))))))
  have e : ns.take (c + 1) = ns.take c ++ [n] := by rw [List.take_add_one, hn']; rfl
  have LL := insAll_len (ns.take c) L0
  have tl : (ns.take c).length ≤ 1048576 := by simp; omega
  obtain ⟨L, eL⟩ : ∃ L, L = insAll (ns.take c) L0 := ⟨_, rfl⟩
  rw [← eL] at A LL
  have go : ∀ ou' H', Keeps H H' → AccV 1 encS1 9 h0.next H' ou' (insN n L) → Gx.Wp (j27 l ou' (i : Int) (c : Int) H') Q := by
   intro ou' H' kk A'
   subst hj27
   dsimp only
   rw [Gx.w1 (by omega)]
   refine ih (c + 1) ou' H' (by omega) (kH.trans kk) ?_
   rw [e, insAll_snoc, ← eL]; exact A'
  have RL : Row encS H ou L := RowW.rowS (A.row encS1_len)
  unfold ref09_Union_l2
  have ul := ui_le n L
  obtain ⟨bot2, eb2⟩ := iterK_of (fun _ _ _ _ _ _ _ => none) (ref09_Union_l2b k D j39) (show ui n L + 1 ≤ k by omega)
  rw [eb2]
  refine union_l2 bot2 RL (by omega) ?_ (ui n L) 0 (by omega)
  subst hj39
  refine Gx.Wp.jn fun j48 hj48 => ?_
  have ins : L[ui n L]? ≠ some n → Gx.Wp (j48 l ou (i : Int) (c : Int) n (ui n L : Int) false H) Q := by
   intro ne
   subst hj48
   refine Gx.Wp.ifn (fun z => by cases z) (union_ins (n := n) A kH.nx (by omega) fun s' H' A' k' => go s' H' k' ?_)
   rw [ui_no ne]; exact A'
  by_cases c2 : ui n L < L.length
  ·obtain ⟨y, hy⟩ := isome c2
   obtain ⟨p, p1, p2⟩ := RL.ldS hy
   refine Gx.Wp.ifp (by rw [RL.1]; simp; omega) (Gx.Wp.bnd p1 (Gx.Wp.bnd p2 ?_))
   rw [ba_beq]
   by_cases c3 : y = n
   ·rw [decide_eq_true c3]
    subst hj48
    refine Gx.Wp.ifp rfl (go ou H (.refl _ _) ?_)
    rw [ui_hit (by rw [hy, c3])]; exact A
   ·rw [decide_eq_false c3]
    exact ins fun z => c3 (by rw [hy] at z; exact Option.some.inj z)
  ·refine Gx.Wp.ifn (by rw [RL.1]; simp; omega) (ins fun z => ?_)
   rw [List.getElem?_eq_none (by omega)] at z; cases z
theorem union_spec {l : Slc} {xs : List Rp} {ys : List Ry} (R : RowW 3 encP h0 l xs) (S : Say h0 xs ys) (hn : ys.length ≤ 255) (hs : ∀ y ∈ ys, y.2.2.length ≤ 1048576) (hk : 400000000 ≤ k) :
  Gx.Wp (ref09_Union k D l h0) fun z => Keeps h0 z.2 ∧ Row encS z.2 z.1 (namesY ys) ∧ (∀ a, z.1.a = some a → h0.next ≤ a.block ∧ a.block < z.2.next) := by
 simp only [ref09_Union]
 refine Gx.Wp.jn fun j hj => ?_
 unfold ref09_Union_l0
 have lx := S.1
 obtain ⟨bot, eb⟩ := iterK_of (fun _ _ _ _ => none) (ref09_Union_l0b k D j) (show xs.length + 1 ≤ k by omega)
 rw [eb]
 have loop : ∀ (d i : Nat) (ou : Slc) (H : AHeap), i + d = xs.length → Keeps h0 H → AccV 1 encS1 9 h0.next H ou (unionA (ys.take i) []) → (unionA (ys.take i) []).length ≤ i * 1048576 →
   Gx.Wp (iterK bot (d + 1) (ref09_Union_l0b k D j) l ou (i : Int) H) fun z => Keeps h0 z.2 ∧ Row encS z.2 z.1 (namesY ys) ∧ (∀ a, z.1.a = some a → h0.next ≤ a.block ∧ a.block < z.2.next) := fun d => by
  induction d with
  | zero =>
   intro i ou H hd kH A _
   obtain rfl : i = xs.length := by omega
   rw [List.take_of_length_le (by omega), union_eq] at A
   rw [iterK_s]; simp only [ref09_Union_l0b]
   subst hj
   exact Gx.Wp.ifn (by rw [R.len]; simp) (Gx.Wp.of ⟨kH, RowW.rowS (A.row encS1_len), fun a ha => ⟨(A.lt a ha).2, (A.lt a ha).1⟩⟩)
  | succ d ih =>
   intro i ou H hd kH A lk
   rw [iterK_s]; simp only [ref09_Union_l0b]
   obtain ⟨x, hx⟩ := isome (l := xs) (i := i) (by omega)
   obtain ⟨y, hy⟩ := isome (l := ys) (i := i) (by omega)
   obtain ⟨_, _, s3⟩ := S.2 i x y hx hy
   have sy := hs y (mem_of hy)
   refine Gx.Wp.ifp (by rw [R.len]; simp; omega) (Gx.Wp.jn fun j13 hj13 => ?_)
   unfold ref09_Union_l1
   obtain ⟨bot1, eb1⟩ := iterK_of (fun _ _ _ _ _ => none) (ref09_Union_l1b k D j13) (show y.2.2.length + 1 ≤ k by omega)
   rw [eb1]
   have lk2 : (unionA (ys.take i) []).length ≤ 300000000 := by
    have : i ≤ 254 := by omega
    omega
   refine union_l1 (h0 := h0) bot1 R hx s3 sy lk2 hk (fun ou2 H2 k2 A2 => ?_) y.2.2.length 0 ou H (by omega) kH A
   subst hj13
   dsimp only
   rw [Gx.w1 (by omega)]
   have et : ys.take (i + 1) = ys.take i ++ [y] := by rw [List.take_add_one, hy]; rfl
   refine ih (i + 1) ou2 H2 (by omega) k2 ?_ ?_
   ·rw [et, union_snoc]; exact A2
   ·rw [et, union_snoc]
    have := insAll_len y.2.2 (unionA (ys.take i) [])
    omega
 exact loop xs.length 0 nils h0 (by omega) (.refl _ _) (AccV.nil _ _ _ _ _) (Nat.zero_le _)
end
end Gt
namespace Gt
open Go Gx
variable {F : Nat → Prop}
theorem Rts.wk {h : AHeap} {sl : Slc} {m m' : Nat} {ts : List Tb} (T : Rts F h sl m ts) (le : m ≤ m') : Rts F h sl m' ts := ⟨T.rd, T.fr, fun i t hi => ⟨(T.st i t hi).1, ⟨Nat.le_trans (T.st i t hi).2.l le, Nat.le_trans (T.st i t hi).2.c le, (T.st i t hi).2.f⟩⟩, T.ap⟩
section
variable {k : Nat} {D : CallF} {h : AHeap} {sl : Slc} {m : Nat} {ss : List Sb} {ts : List Tb}
theorem rAsk_spec (T : Rts F h sl m ts) (B : Bth ss ts) (sla : ∀ a, sl.a = some a → a.block < h.next) {n : Int} (hn : may n = true) (kind : Int) (name : ByteArray) (hm : m + 255 ≤ 50000) (hk : 400000000 ≤ k) :
  Gx.Wp (ref09_All k D sl n (0, kind, name, ⟨#[]⟩) h) fun z => ∃ xs, Chg (TSet ts) h z.2 ∧ Rts F z.2 sl (m + 255) (ansRL (askL n kind name nob) ts).1 ∧ AllQ h z.2 z.1 (ansRL (askL n kind name nob) ts).2 xs ∧ (ansRL (askL n kind name nob) ts).2.length ≤ 255 := by
 have hm1 : 1 ≤ n ∧ n ≤ 255 := by simpa [may] using hn
 obtain ⟨i, rfl⟩ : ∃ i : Nat, n = (i : Int) := ⟨n.toNat, by omega⟩
 rw [eachN_ask hn, Int.toNat_natCast]
 refine Gx.Wp.mono (rAll_spec T B sla i (by omega) kind name nob 0 (by omega) (by omega)) fun z ⟨xs, c, T', Q⟩ => ⟨xs, c, T'.wk (by omega), Q, ?_⟩
 rw [ansRL_len, eachN_len]; omega
theorem askL_none {n kind : Int} {name : ByteArray} (c : ¬ may n = true) : askL n kind name nob = [] := by unfold askL; rw [if_neg c]
end
end Gt
namespace Gt
open Go Gx
variable {F : Nat → Prop}
section
variable {k : Nat} {D : CallF} {h : AHeap} {sl : Slc} {m : Nat} {ss : List Sb} {ts : List Tb}
end
end Gt
namespace Gt
open Go Gx
variable {F : Nat → Prop}
section
variable {k : Nat} {D : CallF} {h : AHeap}
end
theorem SSet_noS {h : AHeap} {sl : Slc} {m : Nat} {ss : List Sb} (T : Sts h sl m ss) {y : Nat} (z : SSet ss y) : ∀ s c e rw fz, h.get y ≠ some (.cells (.string s :: c) e rw fz) := by
 intro s c e rw fz q
 obtain ⟨t, ht, z⟩ := z
 obtain ⟨i, hi⟩ := List.getElem?_of_mem ht
 obtain ⟨b1, _⟩ := T.st i t hi
 rcases z with rfl | rfl
 ·obtain ⟨e', g⟩ := b1.blk
  rw [g] at q; simp at q
 ·rw [b1.mp] at q; cases q
end Gt
namespace Gt
open Go Gx
theorem run9F {L : Nat → CallF} {k n N jb : Nat} (hn : N ≤ n) {sl : Slc} {p p' : Prg} {ss ss' : List Sb} {s m st : Nat} {O : Nat → Prop} {h : AHeap} (R : RunR k 300 p ss p' ss' s) (J : JobP L N jb p st O h) (T : Sts h sl m ss) (lts : ∀ y, SSet ss y → y < h.next ∧ ¬ JSet O jb y) (hsl : ∀ a, sl.a = some a → a.block < h.next ∧ ¬ JSet O jb a.block)
  (hm : m + s ≤ 100000) (hk : m + s < k) (hss : st + s ≤ 1048576) (l1 : p'.res.ids.length ≤ 1099511627776) (l2 : p'.res.texts.length ≤ 1099511627776) :
  Gx.Wp (law09_run k (L n) (some ⟨jb, 0, none⟩) sl h) fun z => ∃ O', z.1.2 = p'.over ∧ ResOk z.2 p'.res z.1.1 ∧ JobP L N jb p' (st + s) O' z.2 ∧ (∀ y, O' y → O y ∨ h.next ≤ y) ∧ (∀ y, SSet ss' y ↔ SSet ss y) ∧ Sts z.2 sl (m + s) ss' ∧ Chg (fun y => SSet ss y ∨ O y) h z.2 ∧ (∀ a, z.1.1.2.2.2.1.a = some a → h.next ≤ a.block) ∧ ∀ a, z.1.1.2.2.2.2.1.a = some a → h.next ≤ a.block := by
 simp only [law09_run]
 refine Gx.Wp.new fun H1 k1 n1 g1 => Gx.Wp.ifn (fun z => by cases z) ?_
 have jl := J.lj
 have ol := J.lt
 refine Gx.Wp.call (Run_P (L := L) hn R (J.chg k1 fun _ _ f => f) (T.keeps k1) (fun y hy => ⟨by have := (lts y hy).1; omega, (lts y hy).2⟩) (fun a ha => ⟨by have := (hsl a ha).1; omega, (hsl a ha).2⟩) hm hk hss) fun r5 q5 => ?_
 obtain ⟨O', v, J5, sub, far, sset, T5, c5⟩ := q5
 have n5 := c5.nx
 refine Gx.Wp.call (Result_F (L n) J5 l1 l2) fun r6 q6 => ?_
 obtain ⟨⟨k6, o6⟩, fa, fb⟩ := q6
 have nin : ¬ (SSet ss h.next ∨ O h.next) := fun z => z.elim (fun z => by have := (lts _ z).1; omega) fun z => by have := ol _ z; omega
 have g6 := k6.got (by omega) (c5.got (by omega) nin g1)
 have n6 := k6.nx
 refine Gx.Wp.stL (sp := none) g6 rfl rfl rfl (by decide) fun H7 c7 n7 g7 => Gx.Wp.bnd (sldA_at g7 rfl) (Gx.Wp.bnd rfl (Gx.Wp.of ?_))
 have nO : ¬ O' h.next := fun z => (far _ z).elim (fun z => by have := ol _ z; omega) fun z => by omega
 have cA : Chg (fun y => SSet ss y ∨ O y) h H7 := Chg.beh (T := (· = h.next)) ((Chg.keeps k1).trans (c5.trans (Chg.keeps k6))) c7 fun y hy q => by omega
 refine ⟨O', ?_, ?_, (J5.chg k6 fun _ _ f => f).chg c7 (fun y hy q => ?_), fun y o => (far y o).imp id fun q => by omega, sset, (T5.keeps k6).chg c7 (fun y hy q => ?_) (fun a ha q => ?_), cA, fun a ha => by have := fa a ha; omega, fun a ha => by have := fb a ha; omega⟩
 ·dsimp only
  rw [v]
  cases p'.over <;> rfl
 ·obtain ⟨o1, o2, o3, o4, o5, o6', o7⟩ := o6
  exact ⟨o1, o2, o3, Row.chg o4 c7 fun a ha q => by have := fa a ha; omega, Row.chg o5 c7 fun a ha q => by have := fb a ha; omega, o6', o7⟩
 ·rcases hy with hy | hy
  ·exact nO (q ▸ hy)
  ·omega
 ·have := (lts y ((sset y).1 hy)).1; omega
 ·have := (hsl a ha).1; omega
theorem RR.any {F : Nat → Prop} {h : AHeap} {tb : Nat} {r : RSt} (R : RR F h tb r) : RR (fun _ => True) h tb r := ⟨R.blk, R.lt, fun _ _ _ _ _ _ _ _ _ _ _ => trivial, fun _ _ => trivial⟩
theorem Rts.any {F : Nat → Prop} {h : AHeap} {sl : Slc} {m : Nat} {ts : List Tb} (T : Rts F h sl m ts) : Rts (fun _ => True) h sl m ts := ⟨T.rd, T.fr, fun i t hi => ⟨(T.st i t hi).1.any, (T.st i t hi).2⟩, T.ap⟩
def Out (a b : Nat) (y : Nat) : Prop := y < a ∨ b ≤ y
theorem RR.out {F : Nat → Prop} {h H : AHeap} {tb : Nat} {r : RSt} (R : RR F h tb r) (c : Keeps h H) {b : Nat} (hb : b ≤ H.next) : RR (Out h.next b) H tb r := by
 obtain ⟨e, l, hb', A⟩ := R.blk
 have g := c.got R.lt hb'
 exact RR.make (l := l) g (A.keeps c) (Nat.lt_of_lt_of_le R.lt c.nx) (fun a ha => .inl (A.lt a ha).1) fun y hy => .inr (Nat.le_trans hb hy)
theorem Rts.out {F : Nat → Prop} {h H : AHeap} {sl : Slc} {m : Nat} {ts : List Tb} (T : Rts F h sl m ts) (c : Keeps h H) {b : Nat} (hb : b ≤ H.next) : Rts (Out h.next b) H sl m ts := ⟨Row.keeps T.rd c, T.fr, fun i t hi => ⟨(T.st i t hi).1.out c hb, (T.st i t hi).2⟩, T.ap⟩
theorem RR.apartF {S : Nat → Prop} {F : Nat → Prop} {h h' : AHeap} {tb : Nat} {r : RSt} (R : RR F h tb r) (c : Chg S h h') (hS : ∀ y, S y → y ≠ tb ∧ (¬ F y ∨ ∀ s c e rw fz, h.get y ≠ some (.cells (.string s :: c) e rw fz))) : RR F h' tb r := by
 obtain ⟨e, l, hb, A⟩ := R.blk
 have hf := R.flOf hb
 refine RR.make (l := l) ((c.oth _ R.lt fun q => (hS _ q).1 rfl).trans hb) ⟨A.st.imp id ?_, fun a ha => ⟨Nat.lt_of_lt_of_le (A.lt a ha).1 c.nx, (A.lt a ha).2⟩⟩ (Nat.lt_of_lt_of_le R.lt c.nx) hf fun y hy => R.up y (Nat.le_trans c.nx hy)
 rintro ⟨b, h1, h2, h3⟩
 refine ⟨b, h1, (c.oth b (A.lt ⟨b, 0, some (2 + 1)⟩ (by rw [h1])).1 fun q => ?_).trans h2, h3⟩
 rcases (hS b q).2 with g | g
 ·exact g (hf ⟨b, 0, some (2 + 1)⟩ (by rw [h1]))
 ·cases hL : r.L with
  | nil => exact h3 hL
  | cons o L => rw [hL] at h2; exact g _ _ _ _ _ h2
theorem Rts.apartF {S : Nat → Prop} {F : Nat → Prop} {h h' : AHeap} {sl : Slc} {m : Nat} {ts : List Tb} (T : Rts F h sl m ts) (c : Chg S h h') (hS : ∀ y, S y → ¬ TSet ts y ∧ (¬ F y ∨ ∀ s c e rw fz, h.get y ≠ some (.cells (.string s :: c) e rw fz))) (ha : ∀ a, sl.a = some a → ¬ S a.block) : Rts F h' sl m ts :=
 ⟨Row.chg T.rd c ha, T.fr, fun i t hi => ⟨(T.st i t hi).1.apartF c fun y hy => ⟨fun e => (hS y hy).1 ⟨t, mem_of hi, e⟩, (hS y hy).2⟩, (T.st i t hi).2⟩, T.ap⟩
structure P9 (h0 : AHeap) (top : Nat) (h : AHeap) (s r : Slc) (m : Nat) (ss : List Sb) (ts : List Tb) : Prop where
 S : Sts h s m ss
 R : Rts (fun _ => True) h r m ts
 B : Bth ss ts
 ge : top ≤ h.next
 sl : ∀ a, s.a = some a → a.block < top ∧ ¬ SSet ss a.block ∧ ¬ TSet ts a.block
 rl : ∀ a, r.a = some a → a.block < top ∧ ¬ SSet ss a.block ∧ ¬ TSet ts a.block
 sset : ∀ y, SSet ss y → h0.next ≤ y ∧ y < top
 tset : ∀ y, TSet ts y → h0.next ≤ y ∧ y < top
 ap : ∀ y, SSet ss y → ¬ TSet ts y
 keep : Keeps h0 h
section
variable {k m top : Nat} {h0 h : AHeap} {s r : Slc} {ss : List Sb} {ts : List Tb}
theorem Sts.wk {h : AHeap} {sl : Slc} {m m' : Nat} {ss : List Sb} (T : Sts h sl m ss) (le : m ≤ m') : Sts h sl m' ss := ⟨T.rd, T.fr, fun i t hi => ⟨(T.st i t hi).1, (T.st i t hi).2.mono le⟩, T.ap⟩
end
end Gt
namespace Gt
open Go Gx
theorem ansR_grow {ts : List Tb} {m : Nat} (h : ∀ t ∈ ts, t.2.L.length ≤ m) (q : Rq) : ∀ t ∈ (ansR ts q).1, t.2.L.length ≤ m + 1 := by
 unfold ansR
 split
 ·exact fun t ht => Nat.le_succ_of_le (h t ht)
 ·split
  ·exact fun t ht => Nat.le_succ_of_le (h t ht)
  ·rename_i s hs
   intro t ht
   rcases List.mem_or_eq_of_mem_set ht with ht | rfl
   ·exact Nat.le_succ_of_le (h t ht)
   ·have := (rdo_len s.2 q.2.1 q.2.2.1 q.2.2.2).1
    have := h s (mem_of hs)
    dsimp only; omega
theorem ansRL_names : ∀ {qs : List Rq} {ts : List Tb} {m : Nat}, (∀ t ∈ ts, t.2.L.length ≤ m) → m + qs.length ≤ 1048576 → ∀ y ∈ (ansRL qs ts).2, y.2.2.length ≤ 1048576
 | [], _, _, _, _, y, hy => by simp [ansRL] at hy
 | q :: qs, ts, m, h, hm, y, hy => by
  simp only [ansRL, List.mem_cons] at hy
  simp only [List.length_cons] at hm
  rcases hy with rfl | hy
  ·have := ansR_names h q; omega
  ·exact ansRL_names (qs := qs) (m := m + 1) (ansR_grow h q) (by omega) y hy
theorem namesA_len : ∀ (ys : List Ry) (ks : List ByteArray), (∀ y ∈ ys, y.2.2.length ≤ 1048576) → (namesA ys ks).length ≤ ks.length + ys.length * 1048576
 | [], _, _ => by simp [namesA]
 | y :: ys, ks, h => by
  have h1 := namesA_len ys (uni y.2.2 ks) fun z hz => h z (List.mem_cons_of_mem _ hz)
  have h2 := uni_len y.2.2 ks
  have h3 := h y (by simp)
  simp only [namesA, List.length_cons]; omega
theorem namesY_len {ys : List Ry} (h : ∀ y ∈ ys, y.2.2.length ≤ 1048576) (hl : ys.length ≤ 255) : (namesY ys).length < 400000000 := by
 unfold namesY
 rw [nmK_len]
 have := namesA_len ys [] h
 simp only [List.length_nil] at this; omega
section
variable {k m top : Nat} {h0 h : AHeap} {s r : Slc} {ss : List Sb} {ts : List Tb}
end
end Gt
namespace Gt
open Go Gx
section
variable {k m top : Nat} {h0 h : AHeap} {s r : Slc} {ss : List Sb} {ts : List Tb}
end
end Gt
namespace Gt
open Go Gx
section
variable {k m top : Nat} {h0 h : AHeap} {s r : Slc} {ss : List Sb} {ts : List Tb}
theorem P9.keeps (G : P9 h0 top h s r m ss ts) {h2 : AHeap} (c : Keeps h h2) : P9 h0 top h2 s r m ss ts := ⟨G.S.keeps c, G.R.keeps c, G.B, Nat.le_trans G.ge c.nx, G.sl, G.rl, G.sset, G.tset, G.ap, G.keep.trans c⟩
end
end Gt
namespace Gt
open Go Gx
def actF : DT := .pair (.int .i64) (.pair (.int .i64) (.pair (.int .i64) (.pair (.int .i64) (.pair .str (.pair (.list .str) .unit)))))
abbrev Af := Int × Int × Int × Int × ByteArray × Slc
structure ActQ (h : AHeap) (x : Af) (v : actF.V) : Prop where
 n : x.2.2.2.2.1 = v.2.2.2.2.1
 row : Row encS h x.2.2.2.2.2 v.2.2.2.2.2.1
 lt : ∀ a, x.2.2.2.2.2.a = some a → a.block < h.next
section
variable {k top : Nat} {h0 : AHeap} {s r : Slc}
theorem P9.wk {m m' : Nat} {h : AHeap} {ss : List Sb} {ts : List Tb} (G : P9 h0 top h s r m ss ts) (le : m ≤ m') : P9 h0 top h s r m' ss ts := ⟨G.S.wk le, G.R.wk le, G.B, G.ge, G.sl, G.rl, G.sset, G.tset, G.ap, G.keep⟩
end
end Gt
namespace Gt
open Go Gx
end Gt
namespace Gt
open Go Gx
end Gt
namespace Gt
open Go Gx
def cC (ib : Nat) (n : Int) (name : ByteArray) (dl c4 c5 c6 c7 c8 : Slc) : List Value := [ptr ib, .int .i64 n, .string name, .slice dl.a dl.len dl.cap, .slice c4.a c4.len c4.cap, .slice c5.a c5.len c5.cap, .slice c6.a c6.len c6.cap, .slice c7.a c7.len c7.cap, .slice c8.a c8.len c8.cap]
def Fre (O : Nat → Prop) (ib cb y : Nat) : Prop := O y ∧ y ≠ ib ∧ y ≠ cb
structure CB (O : Nat → Prop) (ib cb : Nat) (h : AHeap) (n : Int) (name : ByteArray) (dl c4 c5 c6 c7 c8 : Slc) (T : AHeap → Prop) : Prop where
 own : But O ib cb
 blk : h.get cb = some (.cells (cC ib n name dl c4 c5 c6 c7 c8) 38 true 0)
 told : ∀ h', Agr (Fre O ib cb) h h' → T h'
section
variable {k N c ib cb len : Nat} {O : Nat → Prop} {h : AHeap} {n0 : Int} {name : ByteArray} {dl c4 c5 c6 c7 c8 : Slc} {T : AHeap → Prop}
theorem CB.frame {P : Nat → Prop} {h' : AHeap} (C : CB O ib cb h n0 name dl c4 c5 c6 c7 c8 T) (sub : ∀ y, O y → P y) (a : Agr (But O ib) h h') : CB P ib cb h' n0 name dl c4 c5 c6 c7 c8 T :=
 ⟨⟨sub _ C.own.1, C.own.2⟩, (a.eq _ C.own).trans C.blk, fun h2 a2 => C.told h2 ((a.wk fun _ o => ⟨o.1, o.2.1⟩).trans (a2.wk fun y o => ⟨sub y o.1, o.2⟩))⟩
theorem CB.note {h' : AHeap} {m : Nat} {d4 d5 d6 d7 d8 : Slc} {T' : AHeap → Prop} (C : CB O ib cb h n0 name dl c4 c5 c6 c7 c8 T) (ch : Chg (· = cb) h h') (g : h'.get cb = some (.cells (cC ib n0 name dl d4 d5 d6 d7 d8) 38 true 0)) (lt : ∀ y, O y → y < m) (hm : m ≤ h.next)
  (tn : ∀ h2, Agr (Fre (Gr O m h') ib cb) h' h2 → T h2 → T' h2) : CB (Gr O m h') ib cb h' n0 name dl d4 d5 d6 d7 d8 T' := by
 refine ⟨⟨.inl C.own.1, C.own.2⟩, g, fun h2 a2 => tn h2 a2 (C.told h2 ?_)⟩
 exact (chg_agr ch (fun y o => by have := lt y o.1; omega) fun y o q => o.2.2 q).trans (a2.wk fun y o => ⟨.inl o.1, o.2⟩)
theorem Row.fre {α : Type} {enc : α → Value} {m : Nat} {h' h2 : AHeap} {s : Slc} {xs : List α} (R : Row enc h' s xs) (own : ∀ a, s.a = some a → m ≤ a.block ∧ a.block < h'.next) (lt : ∀ y, O y → y < m) (hib : O ib) (hcb : O cb) (a : Agr (Fre (Gr O m h') ib cb) h' h2) : Row enc h2 s xs :=
 Row.agr R a fun b hb => by
  have w := own b hb
  have := lt _ hib
  have := lt _ hcb
  exact ⟨.inr w, by omega, by omega⟩
theorem then112 {V : List Int → AHeap → Prop} (C : CB O ib cb h n0 name dl c4 c5 c6 c7 nils T) (hV : ∀ cs d8 H, H.get cb = some (.cells (cC ib n0 name dl c4 c5 c6 c7 d8) 38 true 0) → Row encI H d8 cs → T H → V cs H) : ThenC (lvl k) N 1 ib 112 ⟨[ptr cb]⟩ ⟨[]⟩ len (fun cs => .fin ⟨0, 1, [], []⟩ (V cs)) O h := by
 intro n hn P h' m st q sub ag lt hm hP hio cs sl R hcs ow
 obtain ⟨n', rfl⟩ : ∃ n', n = n' + 1 := ⟨n - 1, by omega⟩
 have C' := C.frame sub ag
 have lb := lt _ C'.own.1
 have li := lt _ hP
 have nbi := C'.own.2
 refine Does.of (X := law09_calls_gone k (lvl k n') (some ⟨cb, 0, none⟩) sl h') (by decide) (fun R κ => rfl) ?_
 simp only [law09_calls_gone]
 refine Gx.Wp.bnd rfl (Gx.Wp.st (sp := none) C'.blk (by show 0 + 8 < 9; omega) rfl fun H2 (c2 : Chg (· = cb) h' H2) n2 g2 => ?_)
 have g2 : H2.get cb = some (.cells (cC ib n0 name dl c4 c5 c6 c7 sl) 38 true 0) := g2
 refine Gx.Wp.bnd rfl (Gx.Wp.bnd (ldP_at g2 rfl) ?_)
 refine Gx.Wp.call (End_spec (lvl k n') (c2.got (by omega) (fun z => nbi z.symm) hio) (by omega)) fun z hz => Gx.Wp.of ?_
 obtain ⟨c1, g1⟩ := hz
 have n1 := c1.nx
 refine ⟨(c2.wk fun y _ q => .inl (q ▸ C'.own.1)).trans (c1.wk fun y _ q => .inl (q ▸ hP)), fun h2 a2 => hV cs sl h2 ?_ ?_ ?_, .inl ⟨q, nils, nils, g1, nilS' _, nilS' _, (fun a ha => by cases ha), (fun a ha => by cases ha)⟩⟩
 ·exact (a2.eq cb ⟨.inl C'.own.1, nbi⟩).trans (c1.got (by omega) nbi g2)
 ·refine Row.agr (Row.chg (Row.chg R c2 fun a ha q => by have := ow a ha; omega) c1 fun a ha q => by have := ow a ha; omega) a2 fun a ha => ?_
  have := ow a ha
  exact ⟨.inr ⟨by omega, by dsimp only; omega⟩, by omega⟩
 ·exact C'.told h2 (((chg_agr c2 (fun y o => by have := lt y o.1; omega) fun y o q => o.2.2 q).trans (chg_agr c1 (fun y o => by have := lt y o.1; omega) fun y o q => o.2.1 q)).trans (a2.wk fun y o => ⟨.inl o.1, o.2.1⟩))
section
variable {n st m : Nat} {q : Rq} {g : Nat} {x y : Array Value}
theorem ofBox {O P : Nat → Prop} {h H : AHeap} {z : AHeap} {p : Prg} {b m : Nat} (k1 : Keeps h H) (n1 : H.next = h.next + 1) (hb : b = h.next) (hm : m ≤ h.next) (hP : ∀ y, P y ↔ O y ∨ y = b) (c : Chg (In P H.next) H z) (i : IoQ (lvl k) N ib p st (Gr P H.next z) z) : Chg (In O m) h z ∧ IoQ (lvl k) N ib p st (Gr O m z) z := by
 have nz := c.nx
 refine ⟨Chg.beh (Chg.keeps k1) c fun y hy o => ?_, i.mono fun y o => ?_⟩
 ·rcases o with o | o
  ·rcases (hP y).1 o with o | o
   ·exact .inl o
   ·omega
  ·omega
 ·rcases o with o | o
  ·rcases (hP y).1 o with o | o
   ·exact .inl o
   ·exact .inr ⟨by omega, by omega⟩
  ·exact .inr ⟨by omega, o.2⟩
theorem Dels_io {K : List Int → Prg} (hN : c + 4 ≤ N) (hn : c + 3 ≤ n) (hk : 1000 < k) (T : ThenC (lvl k) N c ib g x y (askL n0 4 name nob).length K O h) (hO : O ib) (lt : ∀ y, O y → y < m) (hm : m ≤ h.next) (hio : h.get ib = some (.cells (ioC q .nilFunc false 0 0 nils nils st) 89 true 0)) :
  Gx.Wp (fan_Dels k (lvl k n) (some ⟨ib, 0, none⟩) n0 name (.func (.func g) x y) h) fun z => Chg (In O m) h z.2 ∧ IoQ (lvl k) N ib (askAll (askL n0 4 name nob) [] fun ys => K (codesY ys)) st (Gr O m z.2) z.2 := by
 simp only [fan_Dels]
 have ec : (Value.func (.func g) x y).cells.toList = [.func (.func g) x y] := rfl
 rw [ec]
 have li := lt _ hO
 have hl2 : (askL n0 4 name nob).length ≤ 255 := askL_len
 refine Gx.Wp.new fun H8 k8 n8 g8 => ?_
 have T2 : ThenC (lvl k) N c ib g x y (askL n0 4 name nob).length K (fun y => O y ∨ y = h.next) H8 := T.frame (fun y o => .inl o) (chg_agr k8 (fun y o => by have := lt _ o.1; omega) fun y o f => f)
 refine Gx.Wp.mono (askAll_io (k := k) (N := N) (c := c + 1) (n := n) (ib := ib) (O := fun y => O y ∨ y = h.next) (m := H8.next) (h := H8) (n0 := n0) (kind := 4) (name := name) (K := fun ys => K (codesY ys)) (by omega) (by omega) hk (then126 T2 ⟨.inr rfl, by omega⟩ g8 (by omega) (by omega)) (.inl hO) (fun y o => by rcases o with o | o; have := lt y o; omega; omega) (Nat.le_refl _) (k8.got (by omega) hio)) fun z hz => ?_
 exact ofBox k8 n8 rfl hm (fun y => Iff.rfl) hz.1 hz.2
theorem Lists_io {K : List ByteArray → List Int → Prg} (hN : c + 4 ≤ N) (hn : c + 3 ≤ n) (hk : 1048577 < k) (T : ThenL (lvl k) N c ib g x y (askL n0 3 name nob).length K O h) (hO : O ib) (lt : ∀ y, O y → y < m) (hm : m ≤ h.next) (hio : h.get ib = some (.cells (ioC q .nilFunc false 0 0 nils nils st) 89 true 0)) :
  Gx.Wp (fan_Lists k (lvl k n) (some ⟨ib, 0, none⟩) n0 name (.func (.func g) x y) h) fun z => Chg (In O m) h z.2 ∧ IoQ (lvl k) N ib (askAll (askL n0 3 name nob) [] fun ys => K (namesY ys) (codesY ys)) st (Gr O m z.2) z.2 := by
 simp only [fan_Lists]
 have ec : (Value.func (.func g) x y).cells.toList = [.func (.func g) x y] := rfl
 rw [ec]
 have li := lt _ hO
 have hl2 : (askL n0 3 name nob).length ≤ 255 := askL_len
 refine Gx.Wp.new fun H8 k8 n8 g8 => ?_
 have T2 : ThenL (lvl k) N c ib g x y (askL n0 3 name nob).length K (fun y => O y ∨ y = h.next) H8 := fun n hn P' h' m st q s ag => T n hn P' h' m st q (fun y o => s y (.inl o)) ((chg_agr k8 (fun y o => by have := lt _ o.1; omega) fun y o f => f).trans (ag.wk fun y o => ⟨.inl o.1, o.2⟩))
 refine Gx.Wp.mono (askAll_io (k := k) (N := N) (c := c + 1) (n := n) (ib := ib) (O := fun y => O y ∨ y = h.next) (m := H8.next) (h := H8) (n0 := n0) (kind := 3) (name := name) (K := fun ys => K (namesY ys) (codesY ys)) (by omega) (by omega) (by omega) (then124 T2 ⟨.inr rfl, by omega⟩ g8 (by omega) (by omega) hk) (.inl hO) (fun y o => by rcases o with o | o; have := lt y o; omega; omega) (Nat.le_refl _) (k8.got (by omega) hio)) fun z hz => ?_
 exact ofBox k8 n8 rfl hm (fun y => Iff.rfl) hz.1 hz.2
end
end
end Gt
namespace Gt
open Go Gx
section
variable {k N c ib cb len : Nat} {O : Nat → Prop} {h : AHeap} {n0 : Int} {name : ByteArray} {dl c4 c5 c6 c7 c8 : Slc} {T : AHeap → Prop}
def endP (V : AHeap → Prop) : Prg := .fin ⟨0, 1, [], []⟩ V
theorem cthen97 {V : List ByteArray → List Int → List Int → AHeap → Prop} (hN : 5 ≤ N) (hk : 1000 < k) (C : CB O ib cb h n0 name dl c4 c5 nils nils nils T) (hV : ∀ ns cs ds d6 d7 d8 H, H.get cb = some (.cells (cC ib n0 name dl c4 c5 d6 d7 d8) 38 true 0) → Row encI H d8 ds → Row encS H d6 ns → Row encI H d7 cs → T H → V ns cs ds H) :
  ThenL (lvl k) N 5 ib 97 ⟨[ptr cb]⟩ ⟨[]⟩ len (fun ns cs => askAll (askL n0 4 name nob) [] fun ys => endP (V ns cs (codesY ys))) O h := by
 intro n hn P h' m st q sub ag lt hm hP hio ns nl cs sl RN own R hcs ow
 obtain ⟨n', rfl⟩ : ∃ n', n = n' + 1 := ⟨n - 1, by omega⟩
 have C' := C.frame sub ag
 have lb := lt _ C'.own.1
 have li := lt _ hP
 have nbi := C'.own.2
 refine Does.of (X := law09_calls_listed k (lvl k n') (some ⟨cb, 0, none⟩) nl sl h') (by decide) (fun R κ => rfl) ?_
 simp only [law09_calls_listed]
 refine Gx.Wp.bnd rfl (Gx.Wp.st (sp := none) C'.blk (by show 0 + 6 < 9; omega) rfl fun H1 (c1 : Chg (· = cb) h' H1) n1 g1 => ?_)
 have g1 : H1.get cb = some (.cells (cC ib n0 name dl c4 c5 nl nils nils) 38 true 0) := g1
 refine Gx.Wp.bnd rfl (Gx.Wp.st (sp := none) g1 (by show 0 + 7 < 9; omega) rfl fun H2 (c2 : Chg (· = cb) H1 H2) n2 g2 => ?_)
 have g2 : H2.get cb = some (.cells (cC ib n0 name dl c4 c5 nl sl nils) 38 true 0) := g2
 refine Gx.Wp.bnd rfl (Gx.Wp.bnd (ldP_at g2 rfl) (Gx.Wp.bnd rfl (Gx.Wp.bnd (sldI_at g2 rfl) (Gx.Wp.bnd rfl (Gx.Wp.bnd (ldS_at g2 rfl) ?_)))))
 have ch : Chg (· = cb) h' H2 := c1.trans c2
 have nh : H2.next = h'.next := n2.trans n1
 have RN2 := Row.chg RN ch fun a ha q => by have := own a ha; omega
 have R2 := Row.chg R ch fun a ha q => by have := ow a ha; omega
 have C2 : CB (Gr P m H2) ib cb H2 n0 name dl c4 c5 nl sl nils fun H => (Row encS H nl ns ∧ Row encI H sl cs) ∧ T H := C'.note ch g2 lt hm fun h2 a2 t => ⟨⟨Row.fre RN2 (fun a ha => by have := own a ha; omega) lt hP C'.own.1 a2, Row.fre R2 (fun a ha => by have := ow a ha; omega) lt hP C'.own.1 a2⟩, t⟩
 refine Gx.Wp.call (Dels_io (N := N) (c := 1) (m := H2.next) (K := fun ds => endP (V ns cs ds)) (by omega) (by omega) hk (then112 C2 fun ds d8 H g r t => hV ns cs ds nl sl d8 H g r t.1.1 t.1.2 t.2) (.inl hP) (fun y o => by rcases o with o | o; have := lt y o; omega; exact o.2) (Nat.le_refl _) (ch.got (by omega) (fun z => nbi z.symm) hio)) fun z hz => Gx.Wp.of ?_
 obtain ⟨cz, iz⟩ := hz
 have nz := cz.nx
 refine ⟨(Chg.beh (T := In (Gr P m H2) H2.next) (ch.wk fun y _ o => .inl (o ▸ C'.own.1)) cz fun y hy o => ?_), iz.mono fun y o => ?_⟩
 ·rcases o with (o | o) | o
  ·exact .inl o
  ·exact .inr o.1
  ·exact .inr (by omega)
 ·rcases o with (o | o) | o
  ·exact .inl o
  ·exact .inr ⟨o.1, by dsimp only; omega⟩
  ·exact .inr ⟨by omega, o.2⟩
theorem cthen71 {V : List Ry → List ByteArray → List Int → List Int → AHeap → Prop} (hN : 9 ≤ N) (hk : 1048577 < k) (C : CB O ib cb h n0 name dl c4 nils nils nils nils T) (hV : ∀ ys ns cs ds d5 d6 d7 d8 H, H.get cb = some (.cells (cC ib n0 name dl c4 d5 d6 d7 d8) 38 true 0) → Row encI H d8 ds → Row encS H d6 ns → Row encI H d7 cs → (∃ xs, RowW 3 encP H d5 xs ∧ Say H xs ys) → T H → V ys ns cs ds H) :
  ThenP (lvl k) N 9 ib 71 ⟨[ptr cb]⟩ ⟨[]⟩ len (fun ys => askAll (askL n0 3 name nob) [] fun zs => askAll (askL n0 4 name nob) [] fun us => endP (V ys (namesY zs) (codesY zs) (codesY us))) O h := by
 intro n hn P h' m st q sub ag lt hm hP hio ys xs sl R S hys ow so sm no
 obtain ⟨n', rfl⟩ : ∃ n', n = n' + 1 := ⟨n - 1, by omega⟩
 have C' := C.frame sub ag
 have lb := lt _ C'.own.1
 have li := lt _ hP
 have nbi := C'.own.2
 refine Does.of (X := law09_calls_got k (lvl k n') (some ⟨cb, 0, none⟩) sl h') (by decide) (fun R κ => rfl) ?_
 simp only [law09_calls_got]
 refine Gx.Wp.bnd rfl (Gx.Wp.st (sp := none) C'.blk (by show 0 + 5 < 9; omega) rfl fun H2 (ch : Chg (· = cb) h' H2) nh g2 => ?_)
 have g2 : H2.get cb = some (.cells (cC ib n0 name dl c4 sl nils nils nils) 38 true 0) := g2
 refine Gx.Wp.bnd rfl (Gx.Wp.bnd (ldP_at g2 rfl) (Gx.Wp.bnd rfl (Gx.Wp.bnd (sldI_at g2 rfl) (Gx.Wp.bnd rfl (Gx.Wp.bnd (ldS_at g2 rfl) ?_)))))
 have ncb : ∀ a, sl.a = some a → a.block ≠ cb := fun a ha z => no.1 a ha (z ▸ C.own.1)
 have RS : RowW 3 encP H2 sl xs := R.chg ch fun a ha z => ncb a ha z
 have SS : Say H2 xs ys := ⟨S.1, fun i x y hx hy => ⟨(S.2 i x y hx hy).1, (S.2 i x y hx hy).2.1, Row.chg (S.2 i x y hx hy).2.2 ch fun a ha z => no.2 i x hx a ha (z ▸ C.own.1)⟩⟩
 have inG : ∀ {y}, But (In P m) ib y → y < H2.next → y ≠ cb → Fre (Gr P m H2) ib cb y := fun w l n => ⟨w.1.imp id fun z => ⟨z, l⟩, w.2, n⟩
 have C2 : CB (Gr P m H2) ib cb H2 n0 name dl c4 sl nils nils nils fun H => (∃ xs, RowW 3 encP H sl xs ∧ Say H xs ys) ∧ T H := C'.note ch g2 lt hm fun h2 a2 t => by
  refine ⟨⟨xs, ⟨RS.len, fun i x hx => ?_⟩, ⟨SS.1, fun i x y hx hy => ⟨(SS.2 i x y hx hy).1, (SS.2 i x y hx hy).2.1, (SS.2 i x y hx hy).2.2.1, fun j w hw => ?_⟩⟩⟩, t⟩
  ·obtain ⟨b, cs, e, r, fz, h1, h3, h4, h5⟩ := RS.at' i x hx
   exact ⟨b, cs, e, r, fz, h1, Nat.lt_of_lt_of_le h3 a2.nx, (a2.eq _ (inG (ow b h1) h3 (ncb b h1))).trans h4, h5⟩
  ·obtain ⟨b, cs, e, r, fz, h1, h3, h4, h5⟩ := (SS.2 i x y hx hy).2.2.2 j w hw
   exact ⟨b, cs, e, r, fz, h1, Nat.lt_of_lt_of_le h3 a2.nx, (a2.eq _ (inG (so i x hx b h1) h3 fun z => no.2 i x hx b h1 (z ▸ C.own.1))).trans h4, h5⟩
 refine Gx.Wp.call (Lists_io (N := N) (c := 5) (m := H2.next) (K := fun ns cs => askAll (askL n0 4 name nob) [] fun us => endP (V ys ns cs (codesY us))) (by omega) (by omega) hk (cthen97 (by omega) (by omega) C2 fun ns cs ds d6 d7 d8 H g r8 r6 r7 t => hV ys ns cs ds sl d6 d7 d8 H g r8 r6 r7 t.1 t.2) (.inl hP) (fun y o => by rcases o with o | o; have := lt y o; omega; exact o.2) (Nat.le_refl _) (ch.got (by omega) (fun z => nbi z.symm) hio)) fun z hz => Gx.Wp.of ?_
 obtain ⟨cz, iz⟩ := hz
 have nz := cz.nx
 refine ⟨(Chg.beh (T := In (Gr P m H2) H2.next) (ch.wk fun y _ o => .inl (o ▸ C'.own.1)) cz fun y hy o => ?_), iz.mono fun y o => ?_⟩
 ·rcases o with (o | o) | o
  ·exact .inl o
  ·exact .inr o.1
  ·exact .inr (by omega)
 ·rcases o with (o | o) | o
  ·exact .inl o
  ·exact .inr ⟨o.1, by dsimp only; omega⟩
  ·exact .inr ⟨by omega, o.2⟩
theorem cthen33 {V : List Int → List Ry → List ByteArray → List Int → List Int → AHeap → Prop} (hN : 12 ≤ N) (hk : 1048577 < k) (C : CB O ib cb h n0 name dl nils nils nils nils nils fun _ => True) (hV : ∀ ps ys ns cs ds d4 d5 d6 d7 d8 H, H.get cb = some (.cells (cC ib n0 name dl d4 d5 d6 d7 d8) 38 true 0) → Row encI H d8 ds → Row encS H d6 ns → Row encI H d7 cs → (∃ xs, RowW 3 encP H d5 xs ∧ Say H xs ys) → Row encI H d4 ps → V ps ys ns cs ds H) :
  ThenC (lvl k) N 12 ib 33 ⟨[ptr cb]⟩ ⟨[]⟩ len (fun ps => askAll (askL n0 2 name nob) [] fun ys => askAll (askL n0 3 name nob) [] fun zs => askAll (askL n0 4 name nob) [] fun us => endP (V ps ys (namesY zs) (codesY zs) (codesY us))) O h := by
 intro n hn P h' m st q sub ag lt hm hP hio cs sl R hcs ow
 obtain ⟨n', rfl⟩ : ∃ n', n = n' + 1 := ⟨n - 1, by omega⟩
 have C' := C.frame sub ag
 have lb := lt _ C'.own.1
 have li := lt _ hP
 have nbi := C'.own.2
 refine Does.of (X := law09_calls_put k (lvl k n') (some ⟨cb, 0, none⟩) sl h') (by decide) (fun R κ => rfl) ?_
 simp only [law09_calls_put]
 refine Gx.Wp.bnd rfl (Gx.Wp.st (sp := none) C'.blk (by show 0 + 4 < 9; omega) rfl fun H2 (ch : Chg (· = cb) h' H2) nh g2 => ?_)
 have g2 : H2.get cb = some (.cells (cC ib n0 name dl sl nils nils nils nils) 38 true 0) := g2
 refine Gx.Wp.bnd rfl (Gx.Wp.bnd (ldP_at g2 rfl) (Gx.Wp.bnd rfl (Gx.Wp.bnd (sldI_at g2 rfl) (Gx.Wp.bnd rfl (Gx.Wp.bnd (ldS_at g2 rfl) ?_)))))
 have R2 := Row.chg R ch fun a ha q => by have := ow a ha; omega
 have C2 : CB (Gr P m H2) ib cb H2 n0 name dl sl nils nils nils nils fun H => Row encI H sl cs := C'.note ch g2 lt hm fun h2 a2 _ => Row.fre R2 (fun a ha => by have := ow a ha; omega) lt hP C'.own.1 a2
 simp only [fan_Gets]
 refine Gx.Wp.call (askAll_io (N := N) (c := 9) (m := H2.next) (K := fun ys => askAll (askL n0 3 name nob) [] fun zs => askAll (askL n0 4 name nob) [] fun us => endP (V cs ys (namesY zs) (codesY zs) (codesY us))) (by omega) (by omega) (by omega) (cthen71 (by omega) hk C2 fun ys ns cs' ds d5 d6 d7 d8 H g r8 r6 r7 r5 t => hV cs ys ns cs' ds sl d5 d6 d7 d8 H g r8 r6 r7 r5 t) (.inl hP) (fun y o => by rcases o with o | o; have := lt y o; omega; exact o.2) (Nat.le_refl _) (ch.got (by omega) (fun z => nbi z.symm) hio)) fun z hz => Gx.Wp.of ?_
 obtain ⟨cz, iz⟩ := hz
 have nz := cz.nx
 refine ⟨(Chg.beh (T := In (Gr P m H2) H2.next) (ch.wk fun y _ o => .inl (o ▸ C'.own.1)) cz fun y hy o => ?_), iz.mono fun y o => ?_⟩
 ·rcases o with (o | o) | o
  ·exact .inl o
  ·exact .inr o.1
  ·exact .inr (by omega)
 ·rcases o with (o | o) | o
  ·exact .inl o
  ·exact .inr ⟨o.1, by dsimp only; omega⟩
  ·exact .inr ⟨by omega, o.2⟩
end
end Gt
namespace Gt
open Go Gx
def ToldC (cb ib : Nat) (n0 : Int) (name : ByteArray) (dl : Slc) (ps : List Int) (ys : List Ry) (ns : List ByteArray) (cs ds : List Int) (H : AHeap) : Prop :=
 ∃ d4 d5 d6 d7 d8, H.get cb = some (.cells (cC ib n0 name dl d4 d5 d6 d7 d8) 38 true 0) ∧ Row encI H d4 ps ∧ (∃ xs, RowW 3 encP H d5 xs ∧ Say H xs ys) ∧ Row encS H d6 ns ∧ Row encI H d7 cs ∧ Row encI H d8 ds
def callsP (cb ib : Nat) (n0 : Int) (name : ByteArray) (dl : Slc) (data : List ByteArray) : Prg :=
 askAll (putsL name data) [] fun ps => askAll (askL n0 2 name nob) [] fun ys => askAll (askL n0 3 name nob) [] fun zs => askAll (askL n0 4 name nob) [] fun us => endP (ToldC cb ib n0 name dl (codesY ps) ys (namesY zs) (codesY zs) (codesY us))
section
variable {k : Nat}
theorem Calls_P (hk : 1048577 < k) {h : AHeap} {cb : Nat} {n0 : Int} {name : ByteArray} {dl : Slc} {data : List ByteArray} (hl : cb < h.next) (g : h.get cb = some (.cells [.pointer none, .int .i64 n0, .string name, .slice dl.a dl.len dl.cap, .slice none 0 0, .slice none 0 0, .slice none 0 0, .slice none 0 0, .slice none 0 0] 38 true 0)) (R : Row encS h dl data) (dcb : ∀ a, dl.a = some a → a.block ≠ cb) :
  Gx.Wp (port_Start k (lvl k 60) (.func (.func 10) ⟨[ptr cb]⟩ ⟨[]⟩) h) fun z => ∃ jb O', z.1 = some ⟨jb, 0, none⟩ ∧ Chg (· = cb) h z.2 ∧ JobP (lvl k) 20 jb (callsP cb h.next n0 name dl data) 0 O' z.2 ∧ (∀ y, O' y → y = cb ∨ h.next ≤ y) ∧ h.next ≤ jb := by
 refine Gx.Wp.mono (Start_P (L := lvl k) (k := k) (n := 60) (N := 20) (p := callsP cb h.next n0 name dl data) (O := fun y => y = cb) (fun y e => e ▸ hl) fun h' kp h2 hio => ?_) fun z ⟨jb, O', e, c, J, _, far, hj⟩ => ⟨jb, O', e, c, J, far, hj⟩
 obtain ⟨ib, eib⟩ : ∃ ib, ib = h.next := ⟨_, rfl⟩
 rw [← eib] at hio h2 ⊢
 refine Does.of (X := law09_calls_begin k (lvl k 59) (some ⟨cb, 0, none⟩) (some ⟨ib, 0, none⟩) h') (by decide) (fun R κ => rfl) ?_
 simp only [law09_calls_begin]
 have np := kp.nx
 refine Gx.Wp.bnd rfl (Gx.Wp.st (sp := none) (kp.got hl g) (by show 0 + 0 < 9; omega) rfl fun H2 (c2 : Chg (· = cb) h' H2) n2 g2 => ?_)
 have g2 : H2.get cb = some (.cells (cC ib n0 name dl nils nils nils nils nils) 38 true 0) := g2
 refine Gx.Wp.bnd rfl (Gx.Wp.bnd (ldS_at g2 rfl) (Gx.Wp.bnd rfl (Gx.Wp.bnd (sldL_at g2 rfl) ?_)))
 have C : CB (fun y => y = cb ∨ y = ib) ib cb H2 n0 name dl nils nils nils nils nils fun _ => True := ⟨⟨.inl rfl, by omega⟩, g2, fun _ _ => trivial⟩
 have P := Puts_io (k := k) (N := 20) (c := 12) (n := 59) (ib := ib) (O := fun y => y = cb ∨ y = ib) (m := H2.next) (h := H2) (name := name) (dsl := ⟨dl.a, dl.len, dl.cap⟩) (data := data) (st := 0) (q := q0) (K := fun ps => askAll (askL n0 2 name nob) [] fun ys => askAll (askL n0 3 name nob) [] fun zs => askAll (askL n0 4 name nob) [] fun us => endP (ToldC cb ib n0 name dl ps ys (namesY zs) (codesY zs) (codesY us)))
  (by omega) (by omega) (by omega) (cthen33 (by omega) hk C fun ps ys ns cs ds d4 d5 d6 d7 d8 H g r8 r6 r7 r5 r4 => ⟨d4, d5, d6, d7, d8, g, r4, r5, r6, r7, r8⟩) (.inr rfl) (fun y o => by omega) (Nat.le_refl _) (c2.got (by omega) (by omega) hio) (Row.chg (Row.keeps R kp) c2 fun a ha z => dcb a ha z)
 refine Gx.Wp.call P fun z hz => Gx.Wp.of ?_
 obtain ⟨cz, iz⟩ := hz
 have nz := cz.nx
 refine ⟨Chg.beh (T := In (fun y => y = cb ∨ y = ib) H2.next) (c2.wk fun y _ o => .inl (.inl o)) cz fun y hy o => ?_, iz.mono fun y o => ?_⟩
 ·rcases o with o | o
  ·exact .inl o
  ·exact .inr (by omega)
 ·rcases o with o | o
  ·exact .inl o
  ·exact .inr ⟨by omega, o.2⟩
theorem askL_okN {n kind : Int} {name data : ByteArray} (hn : name.size < k ∧ name.size ≤ 9223372036854775807) : ∀ q ∈ askL n kind name data, NameOk k q := by
 intro q hq
 unfold askL at hq
 split at hq
 ·obtain ⟨i, _, rfl⟩ := List.mem_map.1 hq
  exact hn
 ·cases hq
theorem putsL_okN {name : ByteArray} {data : List ByteArray} (hn : name.size < k ∧ name.size ≤ 9223372036854775807) : ∀ q ∈ putsL name data, NameOk k q := by
 intro q hq
 unfold putsL at hq
 split at hq
 ·obtain ⟨i, _, rfl⟩ := List.mem_map.1 hq
  exact hn
 ·cases hq
theorem runC {cb ib : Nat} {n0 : Int} {name : ByteArray} {dl : Slc} {data : List ByteArray} {ss : List Sb} (hn : name.size < k ∧ name.size ≤ 9223372036854775807) (hd : data.length ≤ 12) (h60 : ∀ kd, (askL n0 kd name nob).length ≤ 60) {s1 s2 s3 s4 : List Sb} {y1 y2 y3 y4 : List Ry}
  (e1 : ansL (putsL name data) ss = (s1, y1)) (e2 : ansL (askL n0 2 name nob) s1 = (s2, y2)) (e3 : ansL (askL n0 3 name nob) s2 = (s3, y3)) (e4 : ansL (askL n0 4 name nob) s3 = (s4, y4)) :
  ∃ st, st ≤ 200 ∧ RunR k 300 (callsP cb ib n0 name dl data) ss (endP (ToldC cb ib n0 name dl (codesY y1) y2 (namesY y3) (codesY y3) (codesY y4))) s4 st := by
 have l1 : (putsL name data).length ≤ 12 := by
  unfold putsL
  split
  ·simpa using hd
  ·exact Nat.zero_le _
 have l2 := h60 2
 have l3 := h60 3
 have l4 := h60 4
 have r4 := run_all (k := k) (K := fun us => endP (ToldC cb ib n0 name dl (codesY y1) y2 (namesY y3) (codesY y3) (codesY us))) (most := 300 - (putsL name data).length - (askL n0 2 name nob).length - (askL n0 3 name nob).length - (askL n0 4 name nob).length) (qs := askL n0 4 name nob) (acc := []) (ss := s3) (p' := endP (ToldC cb ib n0 name dl (codesY y1) y2 (namesY y3) (codesY y3) (codesY y4))) (ss' := s4) (s := 0) (askL_okN hn) (by rw [e4]; exact RunR.over)
 have r3 := run_all (k := k) (K := fun zs => askAll (askL n0 4 name nob) [] fun us => endP (ToldC cb ib n0 name dl (codesY y1) y2 (namesY zs) (codesY zs) (codesY us))) (qs := askL n0 3 name nob) (acc := []) (ss := s2) (askL_okN hn) (by rw [e3]; exact r4)
 have r2 := run_all (k := k) (K := fun ys => askAll (askL n0 3 name nob) [] fun zs => askAll (askL n0 4 name nob) [] fun us => endP (ToldC cb ib n0 name dl (codesY y1) ys (namesY zs) (codesY zs) (codesY us))) (qs := askL n0 2 name nob) (acc := []) (ss := s1) (askL_okN hn) (by rw [e2]; exact r3)
 have r1 := run_all (k := k) (K := fun ps => askAll (askL n0 2 name nob) [] fun ys => askAll (askL n0 3 name nob) [] fun zs => askAll (askL n0 4 name nob) [] fun us => endP (ToldC cb ib n0 name dl (codesY ps) ys (namesY zs) (codesY zs) (codesY us))) (qs := putsL name data) (acc := []) (ss := ss) (putsL_okN hn) (by rw [e1]; exact r2)
 have e : 300 - (putsL name data).length - (askL n0 2 name nob).length - (askL n0 3 name nob).length - (askL n0 4 name nob).length + (askL n0 4 name nob).length + (askL n0 3 name nob).length + (askL n0 2 name nob).length + (putsL name data).length = 300 := by omega
 rw [e] at r1
 exact ⟨_, by omega, r1⟩
end
end Gt
namespace Gt
open Go Gx
variable {F : Nat → Prop}
section
variable {k : Nat} {D : CallF} {h : AHeap} {sl : Slc} {m : Nat} {ss : List Sb} {ts : List Tb}
theorem all_spec (T : Rts F h sl m ts) (B : Bth ss ts) (sla : ∀ a, sl.a = some a → a.block < h.next) (n kind : Int) (name : ByteArray) (hm : m + 255 ≤ 50000) (hk : 400000000 ≤ k) :
  Gx.Wp (law09_all k D sl n (0, kind, name, ⟨#[]⟩) h) fun z => ∃ xs, Chg (TSet ts) h z.2 ∧ Rts F z.2 sl (m + 255) (ansRL (askL n kind name nob) ts).1 ∧ RowW 3 encP z.2 z.1 xs ∧ Say z.2 xs (ansRL (askL n kind name nob) ts).2 ∧ (∀ a, z.1.a = some a → h.next ≤ a.block) ∧ ∀ (i : Nat) (x : Rp), xs[i]? = some x → ∀ a, x.2.2.a = some a → h.next ≤ a.block := by
 simp only [law09_all]
 refine Gx.Wp.new fun H1 k1 n1 g1 => Gx.Wp.jn fun j7 hj => ?_
 have off : ¬ may n = true → Gx.Wp (j7 sl n (some ⟨h.next, 0, none⟩) true H1) fun z => ∃ xs, Chg (TSet ts) h z.2 ∧ Rts F z.2 sl (m + 255) (ansRL (askL n kind name nob) ts).1 ∧ RowW 3 encP z.2 z.1 xs ∧ Say z.2 xs (ansRL (askL n kind name nob) ts).2 ∧ (∀ a, z.1.a = some a → h.next ≤ a.block) ∧ ∀ (i : Nat) (x : Rp), xs[i]? = some x → ∀ a, x.2.2.a = some a → h.next ≤ a.block := by
  intro c
  rw [askL_none c]
  subst hj
  exact Gx.Wp.ifp rfl (Gx.Wp.of ⟨[], Chg.keeps k1, (T.keeps k1).wk (by omega), ⟨rfl, fun i x hx => by simp at hx⟩, ⟨rfl, fun i x y hx => by simp at hx⟩, (fun a ha => by cases ha), fun i x hx => by simp at hx⟩)
 by_cases c1 : n < 1
 ·exact Gx.Wp.ifp (by simpa using c1) (off (by simp [may]; omega))
 refine Gx.Wp.ifn (by simpa using c1) ?_
 by_cases c2 : n > 255
 ·rw [decide_eq_true c2]
  exact off (by simp [may]; omega)
 rw [decide_eq_false c2]
 have hmay : may n = true := by simp [may]; omega
 subst hj
 refine Gx.Wp.ifn (fun z => by cases z) (Gx.Wp.bnd rfl (Gx.Wp.bnd (sldA_at g1 rfl) (Gx.Wp.bnd rfl ?_)))
 refine Gx.Wp.call (rAsk_spec (T.keeps k1) B (fun a ha => by have := sla a ha; omega) hmay kind name hm hk) fun z hz => Gx.Wp.of ?_
 obtain ⟨xs, c, T', Q, _⟩ := hz
 exact ⟨xs, (Chg.keeps k1).trans c, T', Q.ac.row encP_len, Q.say, fun a ha => by have := (Q.ac.lt a ha).2; omega, fun i x hx a ha => by have := (Q.ad i x hx a ha).1; omega⟩
theorem lcodes_spec {s : Slc} {cs : List Int} (R : Row encI h s cs) (hl : cs.length ≤ 1048576) (hk : cs.length < k) : Gx.Wp (law09_codes k D s h) fun z => Keeps h z.2 ∧ Gx.Acc encI 3 h.next z.2 z.1 cs := by
 simp only [law09_codes]
 refine Gx.Wp.jn fun j hj => ?_
 unfold law09_codes_l0
 obtain ⟨bot, eb⟩ := iterK_of (fun _ _ _ _ => none) (law09_codes_l0b k D j) (show cs.length + 1 ≤ k by omega)
 rw [eb]
 have loop : ∀ (d i : Nat) (o : Slc) (h' : AHeap), i + d = cs.length → Keeps h h' → Gx.Acc encI 3 h.next h' o (cs.take i) → Gx.Wp (iterK bot (d + 1) (law09_codes_l0b k D j) s o (i : Int) h') fun z => Keeps h z.2 ∧ Gx.Acc encI 3 h.next z.2 z.1 cs := fun d => by
  induction d with
  | zero =>
   intro i o h' hd kp A
   obtain rfl : i = cs.length := by omega
   rw [List.take_length] at A
   rw [iterK_s]; simp only [law09_codes_l0b]
   subst hj
   exact Gx.Wp.ifn (by rw [R.1]; simp) (Gx.Wp.of ⟨kp, A⟩)
  | succ d ih =>
   intro i o h' hd kp A
   rw [iterK_s]; simp only [law09_codes_l0b]
   have np := kp.nx
   obtain ⟨x, hx⟩ := isome (l := cs) (i := i) (by omega)
   obtain ⟨p, b1, b2⟩ := (Row.keeps R kp).ldI hx
   refine Gx.Wp.ifp (by rw [R.1]; simp; omega) (Gx.Wp.bnd b1 (Gx.Wp.bnd b2 (Gx.Wp.newE fun H3 e3 k3 n3 g3 => ?_)))
   obtain ⟨s', h9, a1, a2, A', c9, d9⟩ := Acc.pushK A encI_one x (bytes := 8) e3 (by simp; omega) (by decide) (by omega)
   refine Gx.Wp.bnd a1 (Gx.Wp.bnd a2 ?_)
   rw [Gx.w1 (by omega)]
   refine ih (i + 1) s' h9 (by omega) (Chg.beh kp c9 fun y hy ⟨a, ha, q⟩ => by have := (A.lt a ha).2; omega) ?_
   rw [show cs.take (i + 1) = cs.take i ++ [x] by rw [List.take_add_one, hx]; rfl]
   exact A'
 exact loop cs.length 0 _ h (by omega) (.refl _ _) (Acc.nil _ _ _ _)
theorem sameI_spec {a b : Slc} {cs : List Int} (Ra : Row encI h a cs) (Rb : Row encI h b cs) (hl : cs.length ≤ 1048576) (hk : cs.length < k) : book_SameInts k D a b h = some (true, h) := by
 simp only [book_SameInts]
 refine ifn (by rw [Ra.1, Rb.1]; simp) (jn ?_)
 unfold book_SameInts_l0
 generalize hj : (fun (h1 : AHeap) => some (true, h1)) = j
 obtain ⟨bot, eb⟩ := iterK_of (fun _ _ _ _ => none) (book_SameInts_l0b k D j) (show cs.length + 1 ≤ k by omega)
 rw [eb]
 have loop : ∀ d i : Nat, i + d = cs.length → iterK bot (d + 1) (book_SameInts_l0b k D j) a b (i : Int) h = some (true, h) := fun d => by
  induction d with
  | zero =>
   intro i hd
   rw [iterK_s]; simp only [book_SameInts_l0b]
   subst hj
   exact ifn (by rw [Ra.1]; simp; omega) rfl
  | succ d ih =>
   intro i hd
   rw [iterK_s]; simp only [book_SameInts_l0b]
   obtain ⟨x, hx⟩ := isome (l := cs) (i := i) (by omega)
   obtain ⟨p, p1, p2⟩ := Ra.ldI hx
   obtain ⟨q, q1, q2⟩ := Rb.ldI hx
   refine ifp (by rw [Ra.1]; simp; omega) (bnd p1 (bnd p2 (bnd q1 (bnd q2 (ifn (by simp) ?_)))))
   rw [Gx.w1 (by omega)]
   exact ih (i + 1) (by omega)
 exact loop cs.length 0 (by omega)
theorem calls_l0 (bot) {s r : Slc} {cb ib : Nat} {n0 : Int} {name : ByteArray} {dl d4 d5 d6 d7 d8 g : Slc} {xs ws : List Rp} {ys : List Ry} (gc : h.get cb = some (.cells (cC ib n0 name dl d4 d5 d6 d7 d8) 38 true 0)) (R : RowW 3 encP h d5 xs) (S : Say h xs ys) (W : RowW 3 encP h g ws) (SW : Say h ws ys) (hl : ys.length ≤ 1048576) {Q : Bool × AHeap → Prop} {J : Slc → Slc → AHeap → Option (Bool × AHeap)} (hJ : Gx.Wp (J s r h) Q) :
  ∀ (d i : Nat), i + d = ys.length → Gx.Wp (iterK bot (d + 1) (law09_FanCalls_l0b k D J) s r (some ⟨cb, 0, none⟩) g (i : Int) h) Q := fun d => by
 have lx := S.1
 have lw := SW.1
 induction d with
 | zero =>
  intro i hd
  rw [iterK_s]; simp only [law09_FanCalls_l0b]
  exact Gx.Wp.ifn (by rw [W.len]; simp; omega) hJ
 | succ d ih =>
  intro i hd
  rw [iterK_s]; simp only [law09_FanCalls_l0b]
  obtain ⟨x, hx⟩ := isome (l := xs) (i := i) (by omega)
  obtain ⟨w, hw⟩ := isome (l := ws) (i := i) (by omega)
  obtain ⟨y, hy⟩ := isome (l := ys) (i := i) (by omega)
  obtain ⟨e1, e2, _⟩ := S.2 i x y hx hy
  obtain ⟨f1, f2, _⟩ := SW.2 i w y hw hy
  obtain ⟨q, q1, _, q2, q3⟩ := rowP_ld R hx
  obtain ⟨p, p1, _, p2, p3⟩ := rowP_ld W hw
  refine Gx.Wp.ifp (by rw [W.len]; simp; omega) (Gx.Wp.jn fun j70 hj => Gx.Wp.bnd p1 (Gx.Wp.bnd p2 (Gx.Wp.bnd rfl (Gx.Wp.bnd (sldL_at gc rfl) (Gx.Wp.bnd q1 (Gx.Wp.bnd q2 (Gx.Wp.ifn (by rw [e1, f1]; simp) (Gx.Wp.bnd p1 (Gx.Wp.bnd p3 (Gx.Wp.bnd rfl (Gx.Wp.bnd (sldL_at gc rfl) (Gx.Wp.bnd q1 (Gx.Wp.bnd q3 ?_)))))))))))))
  rw [e2, f2, ba_beq, decide_eq_true rfl]
  subst hj
  dsimp only
  refine Gx.Wp.ifn (fun z => by cases z) ?_
  rw [Gx.w1 (by omega)]
  exact ih (i + 1) (by omega)
end
end Gt
namespace Gt
open Go Gx
theorem JobP.told' {L : Nat → CallF} {N jb : Nat} {z : Rz} {W : AHeap → Prop} {st : Nat} {O : Nat → Prop} {h : AHeap} (J : JobP L N jb (.fin z W) st O h) : W h := by
 obtain ⟨ib, o, j, i, f⟩ := J.io
 exact i.1 h (Agr.refl _ _)
theorem putN_all {name : ByteArray} {data : List ByteArray} (hd : data.length ≤ 255) : putN name data data.length = putsL name data := by
 by_cases c : may data.length = true
 ·exact (putN_eq c).symm
 ·have : data.length = 0 := by
   have : ¬ (1 ≤ (data.length : Int) ∧ (data.length : Int) ≤ 255) := by simpa [may] using c
   omega
  unfold putsL
  rw [if_neg c, this]; rfl
section
variable {k : Nat}
theorem calls_l2 {D : CallF} (bot) {h0 : AHeap} {name : ByteArray} {sl : Slc} {xs : List ByteArray} {n : Int} (R : Row encS h0 sl xs) (hl : xs.length ≤ 20) {J} {Q : Bool × AHeap → Prop} (hT : Gx.Wp ((law09_works k D h0).bind fun r => some (r.1, r.2)) Q) (hJ : Gx.Wp (J name sl n h0) Q) :
  ∀ (d i : Nat), i + d = xs.length → Gx.Wp (iterK bot (d + 1) (law09_FanCalls_l2b k D J) name sl n (i : Int) h0) Q := fun d => by
 induction d with
 | zero =>
  intro i hd
  rw [iterK_s]; simp only [law09_FanCalls_l2b]
  exact Gx.Wp.ifn (by rw [R.1]; simp; omega) hJ
 | succ d ih =>
  intro i hd
  rw [iterK_s]; simp only [law09_FanCalls_l2b]
  obtain ⟨x, hx⟩ := isome (l := xs) (i := i) (by omega)
  obtain ⟨p, b1, b2⟩ := R.ldS hx
  refine Gx.Wp.ifp (by rw [R.1]; simp; omega) (Gx.Wp.bnd b1 (Gx.Wp.bnd b2 ?_))
  by_cases c : 200 < x.size
  ·exact Gx.Wp.ifp (by simp; omega) hT
  ·refine Gx.Wp.ifn (by simp; omega) ?_
   rw [Gx.w1 (by omega)]
   exact ih (i + 1) (by omega)
theorem fanCalls_ok (hk : 400000000 ≤ k) {h : AHeap} {name : ByteArray} {dl : Slc} {data : List ByteArray} (R : Row encS h dl data) (dlo : ∀ a, dl.a = some a → a.block < h.next) (hn : name.size < k ∧ name.size ≤ 9223372036854775807) (n : Int) : Gx.Wp (law09_FanCalls k (lvl k 60) name dl n h) fun z => z.1 = true := by
 simp only [law09_FanCalls]
 refine Gx.Wp.jn fun j6 hj6 => Gx.Wp.call (works9 (by omega)) fun r1 q1 => ?_
 obtain ⟨w1, k1⟩ := q1
 have n01 := k1.nx
 have wk : ∀ H, Gx.Wp ((law09_works k (lvl k 60) H).bind fun r => some (r.1, r.2)) fun z => z.1 = true := fun H => Gx.Wp.call (works9 (by omega)) fun r q => Gx.Wp.of q.1
 rw [w1]
 refine Gx.Wp.ifn (fun z => by cases z) ?_
 have big : Gx.Wp (j6 name dl n true r1.2) fun z => z.1 = true := by
  subst hj6
  exact Gx.Wp.ifp rfl (wk _)
 by_cases c12 : 12 < data.length
 ·exact Gx.Wp.ifp (by rw [R.1]; simp; omega) big
 refine Gx.Wp.ifn (by rw [R.1]; simp; omega) ?_
 have go : ¬ (n > 60 ∧ n ≤ 255) → Gx.Wp (j6 name dl n false r1.2) fun z => z.1 = true := by
  intro h60
  subst hj6
  refine Gx.Wp.ifn (fun z => by cases z) (Gx.Wp.jn fun j12 hj12 => ?_)
  have R1 := Row.keeps R k1
  unfold law09_FanCalls_l2
  obtain ⟨bot2, eb2⟩ := iterK_of (fun _ _ _ _ _ => none) (law09_FanCalls_l2b k (lvl k 60) j12) (show data.length + 1 ≤ k by omega)
  rw [eb2]
  refine calls_l2 bot2 R1 (by omega) (wk _) ?_ data.length 0 (by omega)
  subst hj12
  refine Gx.Wp.jn fun j19 hj19 => ?_
  have l60 : ∀ kd, (askL n kd name nob).length ≤ 60 := fun kd => by
   unfold askL
   split
   ·rename_i c
    have : 1 ≤ n ∧ n ≤ 255 := by simpa [may] using c
    simp; omega
   ·exact Nat.zero_le _
  have mid : ∀ (s r : Slc) (H : AHeap) (ss : List Sb) (ts : List Tb), P9 r1.2 H.next H s r 0 ss ts → ss.length = 4 → Gx.Wp (j19 name dl n s r H) fun z => z.1 = true := by
   intro s r H ss ts G hl4
   subst hj19
   have n1H := G.keep.nx
   refine Gx.Wp.new fun H1 kH1 nH1 gH1 => ?_
   have kr1 : Keeps r1.2 H1 := G.keep.trans kH1
   have R2 := Row.keeps R1 kr1
   refine Gx.Wp.call (Calls_P (by omega) (cb := H.next) (by omega) gH1 R2 fun a ha z => by have := dlo a ha; omega) fun r21 q21 => ?_
   obtain ⟨jb, O, ej, c21, J, far, hjb⟩ := q21
   rw [ej]
   have n21 := c21.nx
   have k21 : Keeps H r21.2 := Chg.beh (T := (· = H.next)) kH1 c21 fun y hy z => by omega
   have fO : ∀ y, JSet O jb y → H.next ≤ y := fun y hy => by
    rcases hy with hy | hy
    ·rcases far y hy with z | z <;> omega
    ·omega
   have jl := J.lj
   obtain ⟨s1, y1, e1⟩ : ∃ s1 y1, ansL (putsL name data) ss = (s1, y1) := ⟨_, _, rfl⟩
   obtain ⟨s2, y2, e2⟩ : ∃ s2 y2, ansL (askL n 2 name nob) s1 = (s2, y2) := ⟨_, _, rfl⟩
   obtain ⟨s3, y3, e3⟩ : ∃ s3 y3, ansL (askL n 3 name nob) s2 = (s3, y3) := ⟨_, _, rfl⟩
   obtain ⟨s4, y4, e4⟩ : ∃ s4 y4, ansL (askL n 4 name nob) s3 = (s4, y4) := ⟨_, _, rfl⟩
   obtain ⟨st, hst, RU⟩ := runC (k := k) (cb := H.next) (ib := H1.next) (dl := dl) hn (by omega) l60 e1 e2 e3 e4
   refine Gx.Wp.call (run9F (L := lvl k) (N := 20) (n := 60) (by decide) RU J (G.S.keeps k21) (fun y hy => ?_) (fun a ha => ?_) (by omega) (by omega) (by omega) (Nat.zero_le _) (Nat.zero_le _)) fun r22 q22 => ?_
   ·have := G.sset y hy
    exact ⟨by have := k21.nx; omega, fun z => by have := fO y z; omega⟩
   ·have := G.sl a ha
    exact ⟨by have := k21.nx; omega, fun z => by have := fO _ z; omega⟩
   obtain ⟨O2, v, ⟨_, _, rn, _⟩, J2, far2, sset, T2, c22, _, _⟩ := q22
   have v : r22.1.2 = true := v
   have n22 := c22.nx
   have n21' := k21.nx
   have fO2 : ∀ y, JSet O2 jb y → H.next ≤ y := fun y hy => by
    rcases hy with hy | hy
    ·rcases far2 y hy with z | z
     ·exact fO y (.inl z)
     ·omega
    ·omega
   refine Gx.Wp.new fun H3 k3 n3 g3 => Gx.Wp.stL (sp := none) g3 rfl rfl rfl (by decide) fun H4 c4 n4 g4 => ?_
   have k4 : Keeps r22.2 H4 := Chg.beh (T := (· = r22.2.next)) k3 c4 fun y hy q => by omega
   have RT : Rts (Out H.next r21.2.next) r22.2 r 0 ts := (G.R.out k21 (Nat.le_refl _)).apartF c22 (fun y hy => by
    rcases hy with hy | hy
    ·exact ⟨G.ap y hy, .inr (SSet_noS (G.S.keeps k21) hy)⟩
    ·have a := fO y (.inl hy)
     have b := J.lt y hy
     exact ⟨fun z => by have := G.tset y z; omega, .inl fun z => by rcases z with z | z <;> omega⟩) fun a ha z => by
    have := G.rl a ha
    rcases z with z | z
    ·exact this.2.1 z
    ·have := fO _ (.inl z); omega
   have RT4 := RT.keeps k4
   have kr4 : Keeps r1.2 H4 := by
    refine Chg.beh (T := fun y => SSet ss y ∨ O y) (G.keep.trans k21) (c22.trans (Chg.keeps k4)) fun y hy z => ?_
    rcases z with z | z
    ·have := G.sset y z; omega
    ·have := fO y (.inl z); omega
   have rla : ∀ {X : AHeap}, H.next ≤ X.next → ∀ a, r.a = some a → a.block < X.next := fun hX a ha => by have := (G.rl a ha).1; omega
   have dT : ∀ a, dl.a = some a → ¬ TSet ts a.block := fun a ha z => by have := dlo a ha; have := G.tset _ z; omega
   have b1 := both_all (qs := putsL name data) G.B
   rw [e1] at b1
   have b2 := both_all (qs := askL n 2 name nob) b1.2
   rw [e2] at b2
   have b3 := both_all (qs := askL n 3 name nob) b2.2
   rw [e3] at b3
   have b4 := both_all (qs := askL n 4 name nob) b3.2
   rw [e4] at b4
   refine Gx.Wp.call (rPuts_spec RT4 G.B (rla (by omega)) name (Row.keeps R1 kr4) dT (by omega) (by omega) (by omega)) fun r25 q25 => ?_
   obtain ⟨c25, T25, A25⟩ := q25
   rw [putN_all (by omega)] at T25 A25
   rw [← b1.1] at A25
   have n25 := c25.nx
   obtain ⟨t1, et1⟩ : ∃ t1, t1 = (ansRL (putsL name data) ts).1 := ⟨_, rfl⟩
   rw [← et1] at T25 b1 b2 b3 b4
   have z1 : ∀ y, TSet t1 y ↔ TSet ts y := fun y => et1 ▸ TSet_ansRL y _ _
   refine Gx.Wp.call (all_spec (T25.wk (m' := 255) (by omega)) b1.2 (rla (by omega)) n 2 name (by omega) hk) fun r26 q26 => ?_
   obtain ⟨x26, c26, T26, R26, S26, o26, p26⟩ := q26
   rw [← b2.1] at S26
   have n26 := c26.nx
   obtain ⟨t2, et2⟩ : ∃ t2, t2 = (ansRL (askL n 2 name nob) t1).1 := ⟨_, rfl⟩
   rw [← et2] at T26 b2 b3 b4
   have z2 : ∀ y, TSet t2 y ↔ TSet ts y := fun y => et2 ▸ (TSet_ansRL y _ _).trans (z1 y)
   refine Gx.Wp.call (all_spec (T26.wk (m' := 510) (by omega)) b2.2 (rla (by omega)) n 3 name (by omega) hk) fun r27 q27 => ?_
   obtain ⟨x27, c27, T27, R27, S27, o27, p27⟩ := q27
   rw [← b3.1] at S27
   have n27 := c27.nx
   obtain ⟨t3, et3⟩ : ∃ t3, t3 = (ansRL (askL n 3 name nob) t2).1 := ⟨_, rfl⟩
   rw [← et3] at T27 b3 b4
   have z3 : ∀ y, TSet t3 y ↔ TSet ts y := fun y => et3 ▸ (TSet_ansRL y _ _).trans (z2 y)
   refine Gx.Wp.call (all_spec (T27.wk (m' := 765) (by omega)) b3.2 (rla (by omega)) n 4 name (by omega) hk) fun r28 q28 => ?_
   obtain ⟨x28, c28, T28, R28, S28, o28, p28⟩ := q28
   rw [← b4.1] at S28
   have S28 : Say r28.2 x28 y4 := S28
   have n28 := c28.nx
   have zT : ∀ {t : List Tb} {X Y : AHeap}, (∀ y, TSet t y ↔ TSet ts y) → Chg (TSet t) X Y → Chg (TSet ts) X Y := fun e c => c.wk fun y _ z => (e y).1 z
   have c26 := zT z1 c26
   have c27 := zT z2 c27
   have c28 := zT z3 c28
   have nT : ∀ y, H.next ≤ y → ¬ TSet ts y := fun y hy z => by have := G.tset y z; omega
   have cR : Chg (TSet ts) H4 r28.2 := ((c25.trans c26).trans c27).trans c28
   have J4 := (J2.chg k4 fun _ _ f => f).chg cR fun y hy z => nT y (fO2 y hy) z
   obtain ⟨d4, d5, d6, d7, d8, gc, R4, ⟨x5, R5, S5⟩, R6, R7, R8⟩ := JobP.told' J4
   have gb := cR.got (by omega) (nT _ (by omega)) g4
   have P25 : Row encI r28.2 r25.1 (codesY y1) := (A25.chg ((c26.trans c27).trans c28) fun a ha z => nT _ (by have := (A25.lt a ha).2; omega) z).row
   have Q26 : RowW 3 encP r28.2 r26.1 x26 := R26.chg (c27.trans c28) fun a ha z => nT _ (by have := o26 a ha; omega) z
   have U26 : Say r28.2 x26 y2 := ⟨S26.1, fun i x y hx hy => ⟨(S26.2 i x y hx hy).1, (S26.2 i x y hx hy).2.1, Row.chg (S26.2 i x y hx hy).2.2 (c27.trans c28) fun a ha z => nT _ (by have := p26 i x hx a ha; omega) z⟩⟩
   have Q27 : RowW 3 encP r28.2 r27.1 x27 := R27.chg c28 fun a ha z => nT _ (by have := o27 a ha; omega) z
   have U27 : Say r28.2 x27 y3 := ⟨S27.1, fun i x y hx hy => ⟨(S27.2 i x y hx hy).1, (S27.2 i x y hx hy).2.1, Row.chg (S27.2 i x y hx hy).2.2 c28 fun a ha z => nT _ (by have := p27 i x hx a ha; omega) z⟩⟩
   have ly1 : y1.length ≤ 255 := by have := ansL_len (putsL name data) ss; rw [e1] at this; simp only at this; have := putsL_len (name := name) (data := data); omega
   have ly2 : y2.length ≤ 255 := by have := ansL_len (askL n 2 name nob) s1; rw [e2] at this; simp only at this; have := l60 2; omega
   have ly3 : y3.length ≤ 255 := by have := ansL_len (askL n 3 name nob) s2; rw [e3] at this; simp only at this; have := l60 3; omega
   have ly4 : y4.length ≤ 255 := by have := ansL_len (askL n 4 name nob) s3; rw [e4] at this; simp only at this; have := l60 4; omega
   have lc : ∀ ys : List Ry, ys.length ≤ 255 → (codesY ys).length ≤ 255 := fun ys h => by simpa [codesY] using h
   have lc1 := lc y1 ly1
   have lc3 := lc y3 ly3
   have lc4 := lc y4 ly4
   have nm3 : ∀ y ∈ y3, y.2.2.length ≤ 1048576 := by
    show ∀ y ∈ (s3, y3).2, y.2.2.length ≤ 1048576
    rw [b3.1]
    exact ansRL_names (m := 510) (fun t ht => by
     obtain ⟨i, hi⟩ := List.getElem?_of_mem ht
     exact (T26.st i t hi).2.l) (by have := l60 3; omega)
   refine Gx.Wp.jn fun j35 hj35 => Gx.Wp.ifn (by rw [v]; decide) (Gx.Wp.bnd (sldI_at gb rfl) (Gx.Wp.ifn (by rw [rn]; show ¬ (((1 : Nat) : Int) != 1) = true; decide) (Gx.Wp.bnd (sldL_at gc rfl) ?_)))
   refine Gx.Wp.call (lcodes_spec (D := lvl k 60) (s := ⟨d4.a, d4.len, d4.cap⟩) R4 (by omega) (by omega)) fun r85 q85 => ?_
   obtain ⟨k85, A85⟩ := q85
   refine Gx.Wp.call (lcodes_spec (D := lvl k 60) (Row.keeps P25 k85) (by omega) (by omega)) fun r86 q86 => ?_
   obtain ⟨k86, A86⟩ := q86
   refine Gx.Wp.bnd (sameI_spec (D := lvl k 60) (A85.keeps k86).row A86.row (by omega) (by omega)) (Gx.Wp.ifn (fun z => by cases z) ?_)
   have kA : Keeps r28.2 r86.2 := k85.trans k86
   have lcb : H.next < r28.2.next := by omega
   have gcA := kA.got lcb gc
   refine Gx.Wp.bnd (sldL_at gcA rfl) (Gx.Wp.ifn (by show ¬ ((d5.len : Int) != (r26.1.len : Int)) = true; rw [R5.len, Q26.len, S5.1, U26.1]; simp) ?_)
   have U27A : Say r86.2 x27 y3 := ⟨U27.1, fun i x y hx hy => ⟨(U27.2 i x y hx hy).1, (U27.2 i x y hx hy).2.1, Row.keeps (U27.2 i x y hx hy).2.2 kA⟩⟩
   refine Gx.Wp.call (union_spec (D := lvl k 60) (Q27.keeps kA) U27A ly3 nm3 hk) fun r89 q89 => ?_
   obtain ⟨k89, R89, _⟩ := q89
   have kB : Keeps r28.2 r89.2 := kA.trans k89
   have gcB := kB.got lcb gc
   have lnm := namesY_len nm3 ly3
   refine Gx.Wp.bnd (sldL_at gcB rfl) (Gx.Wp.gp (ssw1 (bnd (sldL_at gcA rfl) rfl)) ?_)
   refine Gx.Wp.bnd (sameS_spec (lvl k 60) (a := ⟨d6.a, d6.len, d6.cap⟩) (Row.keeps R6 kB) R89 (by omega) (by omega)) (Gx.Wp.ifn (fun z => by cases z) (Gx.Wp.bnd (sldL_at gcB rfl) ?_))
   refine Gx.Wp.call (lcodes_spec (D := lvl k 60) (s := ⟨d7.a, d7.len, d7.cap⟩) (Row.keeps R7 kB) (by omega) (by omega)) fun r95 q95 => ?_
   obtain ⟨k95, A95⟩ := q95
   have lx27 := U27.1
   refine Gx.Wp.call (rCodes_spec (D := lvl k 60) (Q27.keeps (kB.trans k95)) (by omega) (by omega)) fun r96 q96 => ?_
   obtain ⟨k96, A96⟩ := q96
   rw [say_codes U27] at A96
   refine Gx.Wp.call (lcodes_spec (D := lvl k 60) A96.row (by omega) (by omega)) fun r97 q97 => ?_
   obtain ⟨k97, A97⟩ := q97
   refine Gx.Wp.bnd (sameI_spec (D := lvl k 60) (A95.keeps (k96.trans k97)).row A97.row (by omega) (by omega)) (Gx.Wp.ifn (fun z => by cases z) ?_)
   have kC : Keeps r28.2 r97.2 := kB.trans (k95.trans (k96.trans k97))
   have gcC := kC.got lcb gc
   refine Gx.Wp.bnd (sldL_at gcC rfl) ?_
   refine Gx.Wp.call (lcodes_spec (D := lvl k 60) (s := ⟨d8.a, d8.len, d8.cap⟩) (Row.keeps R8 kC) (by omega) (by omega)) fun r100 q100 => ?_
   obtain ⟨k100, A100⟩ := q100
   have lx28 := S28.1
   refine Gx.Wp.call (rCodes_spec (D := lvl k 60) (R28.keeps (kC.trans k100)) (by omega) (by omega)) fun r101 q101 => ?_
   obtain ⟨k101, A101⟩ := q101
   rw [say_codes S28] at A101
   refine Gx.Wp.call (lcodes_spec (D := lvl k 60) A101.row (by omega) (by omega)) fun r102 q102 => ?_
   obtain ⟨k102, A102⟩ := q102
   refine Gx.Wp.bnd (sameI_spec (D := lvl k 60) (A100.keeps (k101.trans k102)).row A102.row (by omega) (by omega)) ?_
   have kD : Keeps r28.2 r102.2 := kC.trans (k100.trans (k101.trans k102))
   have gcD := kD.got lcb gc
   subst hj35
   refine Gx.Wp.ifn (fun z => by cases z) (Gx.Wp.jn fun j39 hj39 => ?_)
   have sayK : ∀ {X : AHeap} {xs : List Rp}, Say r28.2 xs y2 → Keeps r28.2 X → Say X xs y2 := fun U kk => ⟨U.1, fun i x y hx hy => ⟨(U.2 i x y hx hy).1, (U.2 i x y hx hy).2.1, Row.keeps (U.2 i x y hx hy).2.2 kk⟩⟩
   unfold law09_FanCalls_l0
   obtain ⟨bot0, eb0⟩ := iterK_of (fun _ _ _ _ _ _ => none) (law09_FanCalls_l0b k (lvl k 60) j39) (show y2.length + 1 ≤ k by omega)
   rw [eb0]
   refine calls_l0 (D := lvl k 60) bot0 gcD (R5.keeps kD) (sayK S5 kD) (Q26.keeps kD) (sayK U26 kD) (by omega) ?_ y2.length 0 (by omega)
   subst hj39
   have TS : Sts r102.2 s st s4 := ((T2.keeps k4).chg cR (fun y hy z => G.ap y ((sset y).1 hy) z) fun a ha z => (G.sl a ha).2.2 z).keeps kD |> fun T => (Nat.zero_add st) ▸ T
   have TR := (T28.keeps kD)
   have used : ∀ i : Nat, i < 4 → ∃ qx x qy y, Gx.idxL 1 s (i : Int) = some qx ∧ Gx.ldP qx r102.2 = some (some ⟨x, 0, none⟩) ∧ Gx.idxL 1 r (i : Int) = some qy ∧ Gx.ldP qy r102.2 = some (some ⟨y, 0, none⟩) ∧ ∃ u : Int, store_Store_Used k (lvl k 60) (some ⟨x, 0, none⟩) r102.2 = some (u, r102.2) ∧ ref07_Store_Used k (lvl k 60) (some ⟨y, 0, none⟩) r102.2 = some (u, r102.2) := by
    intro i hi
    have l4 : s4.length = 4 := by
     have a1 := ansL_ss (putsL name data) ss
     have a2 := ansL_ss (askL n 2 name nob) s1
     have a3 := ansL_ss (askL n 3 name nob) s2
     have a4 := ansL_ss (askL n 4 name nob) s3
     rw [e1] at a1; rw [e2] at a2; rw [e3] at a3; rw [e4] at a4
     simp only at a1 a2 a3 a4; omega
    obtain ⟨x, hx⟩ := isome (l := s4) (i := i) (by omega)
    obtain ⟨y, hy⟩ := isome (l := (ansRL (askL n 4 name nob) t3).1) (i := i) (by rw [← b4.2.len]; show i < s4.length; omega)
    obtain ⟨qx, x1, x2, _⟩ := TS.rd.rd hx
    obtain ⟨qy, y1', y2', _⟩ := TR.rd.rd hy
    have Re := b4.2.rel i x y hx hy
    have Bx := (TS.st i x hx).2
    have By := (TR.st i y hy).2
    have bl1 := Bx.l
    have bl2 := By.l
    have tt : totR y.2.L ≤ 1152921504606846976 := by
     rw [← Re.tot]
     have := tot_le Bx.g; omega
    refine ⟨qx, x.1, qy, y.1, x1, by simp only [Gx.ldP, x2]; rfl, y1', by simp only [Gx.ldP, y2']; rfl, _, Used_spec (lvl k 60) (TS.st i x hx).1, ?_⟩
    rw [rused_spec (lvl k 60) (TR.st i y hy).1 (by omega) (by omega) tt, Re.tot]
   obtain ⟨qx, x, qy, y, u1, u2, u3, u4, u, u5, u6⟩ := used 0 (by decide)
   obtain ⟨qx', x', qy', y', v1, v2, v3, v4, u', v5, v6⟩ := used 3 (by decide)
   refine Gx.Wp.bnd u1 (Gx.Wp.bnd u2 (Gx.Wp.bnd u5 (Gx.Wp.bnd u3 (Gx.Wp.bnd u4 (Gx.Wp.gp (ssw1 (bnd u4 rfl)) (Gx.Wp.bnd u6 (Gx.Wp.ifp (by simp) ?_)))))))
   refine Gx.Wp.bnd v1 (Gx.Wp.bnd v2 (Gx.Wp.bnd v5 (Gx.Wp.bnd v3 (Gx.Wp.bnd v4 (Gx.Wp.gp (ssw1 (bnd v4 rfl)) (Gx.Wp.bnd v6 (Gx.Wp.of (by simp))))))))
  unfold law09_FanCalls_l1
  obtain ⟨bot1, eb1⟩ := iterK_of (fun _ _ _ _ _ _ _ => none) (law09_FanCalls_l1b k (lvl k 60) j19) (show 4 + 1 ≤ k by omega)
  rw [eb1]
  have loop : ∀ (d i : Nat) (s r : Slc) (H : AHeap) (ss : List Sb) (ts : List Tb), i + d = 4 → ss.length = i → Mk r1.2.next 300 H s r ss ts → r1.2.next ≤ H.next → Chg (fun y => r1.2.next ≤ y) r1.2 H → Gx.Wp (iterK bot1 (d + 1) (law09_FanCalls_l1b k (lvl k 60) j19) name dl n s r (i : Int) H) fun z => z.1 = true := fun d => by
   induction d with
   | zero =>
    intro i s r H ss ts hd hl M hn' c
    rw [iterK_s]; simp only [law09_FanCalls_l1b]
    refine Gx.Wp.ifn (by simp; omega) (mid s r H ss ts ?_ (by omega))
    have kH : Keeps r1.2 H := ⟨c.nx, fun x hx _ => c.oth x hx (by omega)⟩
    exact ⟨M.sts (by decide), M.rts, M.bth, Nat.le_refl _, fun a ha => (M.ls ha).2, fun a ha => (M.lr ha).2, fun y hy => M.sset hy, fun y hy => M.tset hy, fun y hy => M.parts hy, kH⟩
   | succ d ih =>
    intro i s r H ss ts hd hl M hn' c
    rw [iterK_s]; simp only [law09_FanCalls_l1b]
    refine Gx.Wp.ifp (by simp; omega) ?_
    rw [Gx.w1 (by omega)]
    have hq : 300 ≤ 1073741824 := by decide
    have hle : ss.length ≤ 1000 := by omega
    have nxt : ∀ (s' r' : Slc) (h' : AHeap) (x : Sb) (y : Tb), Mk r1.2.next 300 h' s' r' (ss ++ [x]) (ts ++ [y]) → Chg (fun y => r1.2.next ≤ y) H h' → Gx.Wp (iterK bot1 (d + 1) (law09_FanCalls_l1b k (lvl k 60) j19) name dl n s' r' ((i + 1 : Nat) : Int) h') fun z => z.1 = true :=
     fun s' r' h' x y M' c' => ih (i + 1) s' r' h' _ _ (by omega) (by simp [hl]) M' (by have := c'.nx; omega) (c.trans c')
    exact M.more (D := lvl k 60) (f := fun s' r' h' => iterK bot1 (d + 1) (law09_FanCalls_l1b k (lvl k 60) j19) name dl n s' r' ((i + 1 : Nat) : Int) h') hq hle hn' nxt
  exact loop 4 0 nils nils r1.2 [] [] (by omega) rfl (Mk.nil _ _ _) (Nat.le_refl _) (Chg.refl _ _)
 by_cases c60 : n > 60
 ·refine Gx.Wp.ifp (by simpa using c60) ?_
  by_cases c255 : n ≤ 255
  ·rw [decide_eq_true c255]; exact big
  ·rw [decide_eq_false c255]; exact go fun z => c255 z.2
 ·exact Gx.Wp.ifn (by simpa using c60) (go fun z => c60 z.1)
theorem fanCalls_rep {name : ByteArray} (hk : 400000000 + name.size ≤ k) {h : AHeap} (hn : name.size ≤ 9223372036854775807) {dl : Slc} {data : List ByteArray} (R : Row encS h dl data) (dlo : ∀ a, dl.a = some a → a.block < h.next) (n : Int) : ∃ h', law09_FanCalls k (DD k) name dl n h = some (true, h') := by
 obtain ⟨⟨r, h'⟩, e, q⟩ := fanCalls_ok (k := k) (by omega) R dlo ⟨by omega, hn⟩ n
 obtain rfl : r = true := q
 exact ⟨h', e⟩
end
end Gt
