import Derived.Test.YtmhahnefniiipaaGreatSp1
namespace Gt
open Go Gx
variable {F : Nat → Prop}
theorem ansS_len (ss : List Sb) (q : Rq) : (ansS ss q).1.length = ss.length := by
 unfold ansS
 split
 ·rfl
 ·split
  ·rfl
  ·simp
theorem ansL_ss : ∀ (qs : List Rq) (ss : List Sb), (ansL qs ss).1.length = ss.length
 | [], _ => rfl
 | q :: qs, ss => by simp only [ansL, ansL_ss qs, ansS_len]
def ansRL : List Rq → List Tb → List Tb × List Ry
 | [], ts => (ts, [])
 | q :: qs, ts => ((ansRL qs (ansR ts q).1).1, (ansR ts q).2 :: (ansRL qs (ansR ts q).1).2)
theorem both_all : ∀ {qs : List Rq} {ss : List Sb} {ts : List Tb}, Bth ss ts → (ansL qs ss).2 = (ansRL qs ts).2 ∧ Bth (ansL qs ss).1 (ansRL qs ts).1
 | [], _, _, B => ⟨rfl, B⟩
 | q :: qs, ss, ts, B => by
  obtain ⟨B', e⟩ := B.ans q
  obtain ⟨h1, h2⟩ := both_all (qs := qs) B'
  exact ⟨by simp only [ansL, ansRL, e, h1], h2⟩
theorem ansRL_snoc : ∀ (qs : List Rq) (q : Rq) (ts : List Tb), ansRL (qs ++ [q]) ts = ((ansR (ansRL qs ts).1 q).1, (ansRL qs ts).2 ++ [(ansR (ansRL qs ts).1 q).2])
 | [], q, ts => rfl
 | r :: qs, q, ts => by simp only [List.cons_append, ansRL, ansRL_snoc qs q]
theorem ansRL_len : ∀ (qs : List Rq) (ts : List Tb), (ansRL qs ts).2.length = qs.length
 | [], _ => rfl
 | q :: qs, ts => by simp only [ansRL, List.length_cons, ansRL_len qs]
theorem TSet_ans (ts : List Tb) (r : Rq) (y : Nat) : TSet (ansR ts r).1 y ↔ TSet ts y := by
 unfold ansR
 split
 ·exact Iff.rfl
 ·split
  ·exact Iff.rfl
  ·rename_i s hs; exact TSet_set hs y
theorem tot_rel {p : PS} {r : RSt} (R : Rel p r) (hl : r.L.length ≤ 1048576) (n d : ByteArray) : totR (lyR n d r.L) ≤ 1152921504606846976 ∨ fitsC n d ≠ 0 := by
 by_cases c : fitsC n d = 0
 ·obtain ⟨hn, hd, _⟩ := fits0 c
  have RL := R.lay hn hd
  have t1 : Gt.tot (pt n d p.cl p.es) = totR (lyR n d r.L) := RL.tot
  have t2 := tot_pt (n := n) (d := d) (cl := p.cl) p.es
  have t3 := tot_le R.g
  have := R.len
  exact .inl (by omega)
 ·exact .inr c
theorem Bth.tot {ss : List Sb} {ts : List Tb} {h : AHeap} {sl : Slc} {m : Nat} (B : Bth ss ts) (T : Rts F h sl m ts) (hm : m ≤ 100000) : ∀ t ∈ ts, ∀ n d, totR (lyR n d t.2.L) ≤ 1152921504606846976 ∨ fitsC n d ≠ 0 := by
 intro t ht n d
 obtain ⟨i, hi⟩ := List.getElem?_of_mem ht
 obtain ⟨s, hs⟩ := isome (l := ss) (i := i) (by rw [B.len]; exact (List.getElem?_eq_some_iff.1 hi).1)
 exact tot_rel (B.rel i s t hs hi) (by have := (T.st i t hi).2.l; omega) n d
theorem Rts.apartE {S : Nat → Prop} {h h' : AHeap} {sl : Slc} {m : Nat} {ts : List Tb} (T : Rts F h sl m ts) (c : Chg S h h') (hS : ∀ y, S y → ¬ TSet ts y ∧ ∃ c e rw fz, h.get y = some (.cells c e rw fz) ∧ e ≠ 96) (ha : ∀ a, sl.a = some a → ¬ S a.block) : Rts F h' sl m ts :=
 ⟨Row.chg T.rd c ha, T.fr, fun i t hi => ⟨(T.st i t hi).1.apartE c fun y hy => ⟨fun e => (hS y hy).1 ⟨t, mem_of hi, e⟩, (hS y hy).2⟩, (T.st i t hi).2⟩, T.ap⟩
end Gt
namespace Gt
open Go Gx
theorem rdo_names (r : RSt) (kind : Int) (n d : ByteArray) : (r.doS kind n d).2.2.2.length ≤ r.L.length := by
 have fl := List.length_filter_le (starts n) (r.L.map (·.1))
 rw [List.length_map] at fl
 unfold RSt.doS
 repeat' split
 all_goals first | exact fl | exact Nat.zero_le _
theorem ansR_names {ts : List Tb} {m : Nat} (h : ∀ t ∈ ts, t.2.L.length ≤ m) (q : Rq) : (ansR ts q).2.2.2.length ≤ m := by
 unfold ansR
 split
 ·exact Nat.zero_le _
 ·split
  ·exact Nat.zero_le _
  ·rename_i s hs
   exact Nat.le_trans (rdo_names _ _ _ _) (h s (mem_of hs))
section
variable {k : Nat} {h0 : AHeap} {kb : Nat} {r sl lk : Slc} {qs : List Rq} {ts0 : List Tb} {ss0 : List Sb}
structure Doc (h0 : AHeap) (kb : Nat) (r lk : Slc) (qs : List Rq) (ts0 : List Tb) (i : Nat) (h : AHeap) : Prop where
 t : Rts (fun _ => True) h r i (ansRL (qs.take i) ts0).1
 l : LR h kb lk i (Rz.of (ansRL (qs.take i) ts0).2)
 b : idsL (ansRL (qs.take i) ts0).2 ≤ i * 100000
 s : ∀ y, TSet (ansRL (qs.take i) ts0).1 y ↔ TSet ts0 y
 c : Chg (fun y => TSet ts0 y ∨ y = kb) h0 h
end
section
variable {k : Nat} {s r : Slc} {ss : List Sb} {ts : List Tb}
end
end Gt
namespace Gt
open Go Gx
end Gt
namespace Gt
open Go Gx
end Gt
namespace Gt
open Go Gx
noncomputable def DD (k : Nat) : CallF := lvl k 60
theorem DD_sound (k : Nat) : CSound Go.Proofs.Tryz.prog 0 (DD k) := lvl_sound k 60
end Gt
namespace Gt
open Go Gx
def jobAt (qs : List Rq) (ss : List Sb) (i : Nat) : Prg := askAll (qs.drop i) (ansL (qs.take i) ss).2 fun ys => finP (Rz.of ys)
theorem ansL_snoc : ∀ (qs : List Rq) (q : Rq) (ss : List Sb), ansL (qs ++ [q]) ss = ((ansS (ansL qs ss).1 q).1, (ansL qs ss).2 ++ [(ansS (ansL qs ss).1 q).2])
 | [], q, ss => rfl
 | r :: qs, q, ss => by simp only [List.cons_append, ansL, ansL_snoc qs q]
theorem ansL_set (y : Nat) : ∀ (qs : List Rq) (ss : List Sb), SSet (ansL qs ss).1 y ↔ SSet ss y
 | [], _ => Iff.rfl
 | q :: qs, ss => (ansL_set y qs _).trans (SSet_ans ss q y)
theorem jobAt_next {qs : List Rq} {i : Nat} {q : Rq} (hq : qs[i]? = some q) : qs.take (i + 1) = qs.take i ++ [q] := by rw [List.take_add_one, hq]; rfl
theorem jobAt_ask {qs : List Rq} {ss : List Sb} {i : Nat} {q : Rq} (hq : qs[i]? = some q) : ∃ kk, jobAt qs ss i = .ask q kk ∧ kk (ansS (ansL (qs.take i) ss).1 q).2 = jobAt qs ss (i + 1) := by
 refine ⟨fun y => askAll (qs.drop (i + 1)) ((ansL (qs.take i) ss).2 ++ [y]) fun ys => finP (Rz.of ys), ?_, ?_⟩
 ·unfold jobAt; rw [dropc hq]; rfl
 ·unfold jobAt; rw [jobAt_next hq, ansL_snoc]
theorem jobAt_over {qs : List Rq} {ss : List Sb} {i : Nat} (hi : i ≤ qs.length) : (jobAt qs ss i).over = decide (i = qs.length) := by
 by_cases c : i = qs.length
 ·subst c
  unfold jobAt
  rw [List.drop_length, decide_eq_true rfl]; rfl
 ·obtain ⟨q, hq⟩ := isome (l := qs) (i := i) (by omega)
  obtain ⟨kk, e, _⟩ := jobAt_ask (ss := ss) hq
  rw [e, decide_eq_false c]; rfl
def TF (O : Nat → Prop) (jb : Nat) (ss : List Sb) (sl : Slc) (y : Nat) : Prop := JSet O jb y ∨ SSet ss y ∨ ofS sl y
structure TJ (k : Nat) (qs : List Rq) (ss : List Sb) (jb : Nat) (sl : Slc) (i : Nat) (O : Nat → Prop) (h : AHeap) : Prop where
 j : JobP (lvl k) 4 jb (jobAt qs ss i) i O h
 s : Sts h sl i (ansL (qs.take i) ss).1
 d : ∀ y, SSet ss y → ¬ JSet O jb y
 e : ∀ a, sl.a = some a → ¬ JSet O jb a.block
 lt : ∀ y, TF O jb ss sl y → y < h.next
theorem TJ.chg {S : Nat → Prop} {k : Nat} {qs : List Rq} {ss : List Sb} {jb : Nat} {sl : Slc} {i : Nat} {O : Nat → Prop} {h h' : AHeap} (J : TJ k qs ss jb sl i O h) (c : Chg S h h') (hs : ∀ y, TF O jb ss sl y → ¬ S y) : TJ k qs ss jb sl i O h' :=
 ⟨J.j.chg c fun y hy => hs y (.inl hy), J.s.chg c (fun y hy => hs y (.inr (.inl ((ansL_set y _ _).1 hy)))) fun a ha => hs _ (.inr (.inr ⟨a, ha, rfl⟩)), J.d, J.e, fun y hy => Nat.lt_of_lt_of_le (J.lt y hy) c.nx⟩
theorem TJ.run {k n : Nat} (hn : 4 ≤ n) (hk : 100000 < k) {qs : List Rq} {ss : List Sb} {jb : Nat} {sl : Slc} {i : Nat} {O : Nat → Prop} {h : AHeap} (J : TJ k qs ss jb sl i O h) (hi : i < qs.length) (hq : qs.length ≤ 1000) (hnm : ∀ q ∈ qs, NameOk k q) :
  Gx.Wp (port_Run k (lvl k n) (some ⟨jb, 0, none⟩) sl 1 h) fun z => ∃ O', z.1 = (1, if i + 1 = qs.length then 0 else 2) ∧ TJ k qs ss jb sl (i + 1) O' z.2 ∧ Chg (TF O jb ss sl) h z.2 ∧ ∀ y, TF O' jb ss sl y → TF O jb ss sl y ∨ h.next ≤ y := by
 obtain ⟨q, hqi⟩ := isome hi
 obtain ⟨kk, e1, e2⟩ := jobAt_ask (ss := ss) hqi
 have sS : ∀ y, SSet (ansL (qs.take i) ss).1 y ↔ SSet ss y := fun y => ansL_set y _ _
 have R : RunR k 1 (jobAt qs ss i) (ansL (qs.take i) ss).1 (jobAt qs ss (i + 1)) (ansS (ansL (qs.take i) ss).1 q).1 1 := by
  rw [e1]
  refine RunR.step (most := 0) (s := 0) (hnm q (mem_of hqi)) ?_
  rw [e2]; exact .stop
 refine Gx.Wp.mono (Run_P (L := lvl k) (N := 4) hn R J.j J.s (fun y hy => ?_) (fun a ha => ?_) (by omega) (by omega) (by omega)) fun z hz => ?_
 ·have hy := (sS y).1 hy
  exact ⟨J.lt y (.inr (.inl hy)), J.d y hy⟩
 ·exact ⟨J.lt _ (.inr (.inr ⟨a, ha, rfl⟩)), J.e a ha⟩
 ·obtain ⟨O', v, j', sub, far, sset, s', c⟩ := hz
  have hov := jobAt_over (qs := qs) (ss := ss) (i := i + 1) (by omega)
  have nx := c.nx
  have fr : ∀ y, JSet O' jb y → JSet O jb y ∨ h.next ≤ y := fun y hy => hy.elim (fun hy => (far y hy).imp .inl id) fun hy => .inl (.inr hy)
  refine ⟨O', ?_, ⟨j', ?_, fun y hy z => ?_, fun a ha z => ?_, fun y hy => ?_⟩, c.wk fun y _ z => z.elim (fun z => .inr (.inl ((sS y).1 z))) fun z => .inl (.inl z), fun y hy => ?_⟩
  ·rw [v, hov]
   by_cases ce : i + 1 = qs.length <;> simp [ce]
  ·rw [jobAt_next hqi, ansL_snoc]; exact s'
  ·rcases fr y z with z | z
   ·exact J.d y hy z
   ·have := J.lt y (.inr (.inl hy)); omega
  ·rcases fr _ z with z | z
   ·exact J.e a ha z
   ·have := J.lt _ (.inr (.inr ⟨a, ha, rfl⟩)); omega
  ·rcases hy with hy | hy
   ·rcases hy with hy | rfl
    ·exact j'.lt y hy
    ·exact j'.lj
   ·exact Nat.lt_of_lt_of_le (J.lt y (.inr hy)) nx
  ·rcases hy with hy | hy
   ·exact (fr y hy).imp .inl id
   ·exact .inl (.inr hy)
theorem TJ.begin {k : Nat} {qs : List Rq} {base q : Nat} {h hj : AHeap} {s r : Slc} {ss : List Sb} {ts : List Tb} (M : Mk base q h s r ss ts) (hq : q ≤ 1073741824) {jb : Nat} {O : Nat → Prop} (J : JobP (lvl k) 4 jb (listP qs) 0 O hj) (kp : Keeps h hj) (h1 : ∀ y, O y → h.next ≤ y) (h2 : h.next ≤ jb) : TJ k qs ss jb s 0 O hj := by
 have nx := kp.nx
 refine ⟨J, (M.sts hq).keeps kp, fun y hy z => ?_, fun a ha z => ?_, fun y hy => ?_⟩
 ·have := M.sset hy
  exact z.elim (fun z => by have := h1 y z; omega) fun z => by omega
 ·have := M.ls ha
  exact z.elim (fun z => by have := h1 _ z; omega) fun z => by omega
 ·rcases hy with (hy | rfl) | hy | ⟨a, ha, rfl⟩
  ·exact J.lt y hy
  ·exact J.lj
  ·have := M.sset hy; omega
  ·have := M.ls ha; omega
theorem ansL_same : ∀ {qs : List Rq} {ss uu : List Sb}, ss.map (·.2.2) = uu.map (·.2.2) → (ansL qs ss).2 = (ansL qs uu).2 ∧ (ansL qs ss).1.map (·.2.2) = (ansL qs uu).1.map (·.2.2)
 | [], _, _, e => ⟨rfl, e⟩
 | q :: qs, ss, uu, e => by
  have one : (ansS ss q).2 = (ansS uu q).2 ∧ (ansS ss q).1.map (·.2.2) = (ansS uu q).1.map (·.2.2) := by
   unfold ansS
   by_cases c : q.1 < 0
   ·rw [if_pos c, if_pos c]; exact ⟨rfl, e⟩
   ·rw [if_neg c, if_neg c]
    have g : (ss[q.1.toNat]?).map (·.2.2) = (uu[q.1.toNat]?).map (·.2.2) := by rw [← List.getElem?_map, ← List.getElem?_map, e]
    cases hs : ss[q.1.toNat]? with
    | none =>
     rw [hs] at g
     cases hu : uu[q.1.toNat]? with
     | none => exact ⟨rfl, e⟩
     | some u => rw [hu] at g; cases g
    | some s =>
     rw [hs] at g
     cases hu : uu[q.1.toNat]? with
     | none => rw [hu] at g; cases g
     | some u =>
      rw [hu] at g
      have g : s.2.2 = u.2.2 := by simpa using g
      simp only
      rw [g]
      exact ⟨rfl, by rw [List.map_set, List.map_set, e]⟩
  obtain ⟨h1, h2⟩ := ansL_same (qs := qs) one.2
  simp only [ansL]
  exact ⟨by rw [one.1, h1], h2⟩
end Gt
namespace Gt
open Go Gx
theorem encI_one (x : Int) : one (encI x) = true := rfl
def firstC (but : List Int) : List Int → Int
 | [] => 0
 | c :: cs => if c = 0 ∨ c ∈ but then firstC but cs else c
theorem firstC_skip {but cs : List Int} {x : Int} (h : x = 0 ∨ x ∈ but) : firstC but (x :: cs) = firstC but cs := if_pos h
theorem firstC_hit {but cs : List Int} {x : Int} (h : ¬ (x = 0 ∨ x ∈ but)) : firstC but (x :: cs) = x := if_neg h
def goodC (cs : List Int) : Nat := cs.countP (· == 0)
theorem may_spec9 (k : Nat) (D : CallF) (n : Int) (h : AHeap) : fan_may k D n h = some (decide (1 ≤ n ∧ n ≤ 255), h) := by
 simp only [fan_may]
 by_cases c : 1 ≤ n
 ·rw [if_pos (by simpa using c)]; simp [c]
 ·rw [if_neg (by simpa using c)]; simp; omega
section
variable {k : Nat} {D : CallF}
theorem codes_spec {h : AHeap} {sl : Slc} {xs : List Rp} (R : RowW 3 encP h sl xs) (hl : xs.length ≤ 1048576) (hk : xs.length < k) : Gx.Wp (fan_codes k D sl h) fun z => Keeps h z.2 ∧ Acc encI 27 h.next z.2 z.1 (xs.map (·.1)) := by
 simp only [fan_codes]
 refine Gx.Wp.jn fun j hj => ?_
 unfold fan_codes_l0
 obtain ⟨bot, eb⟩ := iterK_of (fun _ _ _ _ _ => none) (fan_codes_l0b k D j) (show xs.length + 1 ≤ k by omega)
 rw [eb, R.len]
 have loop : ∀ (d i : Nat) (o : Slc) (h' : AHeap), i + d = xs.length → Keeps h h' → Acc encI 27 h.next h' o ((xs.take i).map (·.1)) → Gx.Wp (iterK bot (d + 1) (fan_codes_l0b k D j) o sl (xs.length : Int) (i : Int) h') fun z => Keeps h z.2 ∧ Acc encI 27 h.next z.2 z.1 (xs.map (·.1)) := fun d => by
  induction d with
  | zero =>
   intro i o h' hd kp A
   obtain rfl : i = xs.length := by omega
   rw [List.take_length] at A
   rw [iterK_s]; simp only [fan_codes_l0b]
   subst hj
   exact Gx.Wp.ifn (by simp) (Gx.Wp.of ⟨kp, A⟩)
  | succ d ih =>
   intro i o h' hd kp A
   rw [iterK_s]; simp only [fan_codes_l0b]
   have np := kp.nx
   obtain ⟨x, hx⟩ := isome (l := xs) (i := i) (by omega)
   obtain ⟨p, b1, b2, _, _⟩ := (R.keeps kp).ld encP_len (by decide) hx
   refine Gx.Wp.ifp (by simp; omega) (Gx.Wp.bnd b1 (Gx.Wp.bnd b2 (Gx.Wp.bnd rfl (Gx.Wp.new fun H1 k1 n1 g1 => Gx.Wp.stL (sp := none) g1 rfl rfl rfl (by decide) fun H2 c2 n2 g2 => Gx.Wp.bnd (sldI_at g2 rfl) (Gx.Wp.newE fun H3 e3 k3 n3 g3 => ?_)))))
   have k2 : Keeps h' H2 := Chg.beh (T := (· = h'.next)) k1 c2 fun y hy q => by omega
   obtain ⟨s', h9, a1, a2, A', c9, d9⟩ := Acc.pushK (A.keeps k2) encI_one x.1 (bytes := 8) e3 (by simp; omega) (by decide) (by omega)
   refine Gx.Wp.bnd a1 (Gx.Wp.bnd a2 ?_)
   rw [Gx.w1 (by omega)]
   refine ih (i + 1) s' h9 (by omega) (Chg.beh (kp.trans k2) c9 fun y hy ⟨a, ha, q⟩ => by have := (A.lt a ha).2; omega) ?_
   rw [show xs.take (i + 1) = xs.take i ++ [x] by rw [List.take_add_one, hx]; rfl, List.map_append]
   exact A'
 exact loop xs.length 0 _ h (by omega) (.refl _ _) (Acc.nil _ _ _ _)
theorem good_spec {h : AHeap} {sl : Slc} {cs : List Int} (R : Row encI h sl cs) (hl : cs.length < 9223372036854775807) (hk : cs.length < k) : fan_good k D sl h = some ((goodC cs : Int), h) := by
 simp only [fan_good]
 refine jn ?_
 unfold fan_good_l0
 generalize hj : (fun (n1 : Int) (h2 : AHeap) => some (n1, h2)) = j
 obtain ⟨bot, eb⟩ := iterK_of (fun _ _ _ _ _ => none) (fan_good_l0b k D j) (show cs.length + 1 ≤ k by omega)
 rw [eb, R.1]
 have loop : ∀ (d i : Nat), i + d = cs.length → iterK bot (d + 1) (fan_good_l0b k D j) (goodC (cs.take i) : Int) sl (cs.length : Int) (i : Int) h = some ((goodC cs : Int), h) := fun d => by
  induction d with
  | zero =>
   intro i hd
   obtain rfl : i = cs.length := by omega
   rw [iterK_s, List.take_length]; simp only [fan_good_l0b]
   subst hj
   exact ifn (by simp) rfl
  | succ d ih =>
   intro i hd
   rw [iterK_s]; simp only [fan_good_l0b]
   obtain ⟨x, hx⟩ := isome (l := cs) (i := i) (by omega)
   obtain ⟨p, b1, b2⟩ := R.ldI hx
   have e : cs.take (i + 1) = cs.take i ++ [x] := by rw [List.take_add_one, hx]; rfl
   have gl : goodC (cs.take i) ≤ i := Nat.le_trans (List.countP_le_length) (by simp; omega)
   have := ih (i + 1) (by omega)
   refine ifp (by simp; omega) (jn (bnd b1 (bnd b2 ?_)))
   rw [e] at this
   by_cases c : x = 0
   ·refine ifp (by simpa using c) ?_
    dsimp only
    rw [Gx.w1 (by omega), Gx.w1 (by omega)]
    have g : goodC (cs.take i ++ [x]) = goodC (cs.take i) + 1 := by simp [goodC, c]
    rw [g] at this; exact this
   ·refine ifn (by simpa using c) ?_
    dsimp only
    rw [Gx.w1 (by omega)]
    have g : goodC (cs.take i ++ [x]) = goodC (cs.take i) := by simp [goodC, c]
    rw [g] at this; exact this
 have := loop cs.length 0 (by omega)
 simpa [goodC] using this
theorem contains_spec {h : AHeap} {sl : Slc} {cs : List Int} (R : Row encI h sl cs) (v : Int) (hl : cs.length < 9223372036854775807) (hk : cs.length < k) : slices_Contains_api_Code_api_Code k D sl v h = some (decide (v ∈ cs), h) := by
 have idx : ∃ r : Int, slices_Index_api_Code_api_Code k D sl v h = some (r, h) ∧ decide (r ≥ 0) = decide (v ∈ cs) := by
  simp only [slices_Index_api_Code_api_Code, joinK]
  unfold slices_Index_api_Code_api_Code_l0
  generalize hj : (fun (h1 : AHeap) => some ((-1 : Int), h1)) = j
  obtain ⟨bot, eb⟩ := iterK_of (fun _ _ _ _ _ => none) (slices_Index_api_Code_api_Code_l0b k D j) (show cs.length + 1 ≤ k by omega)
  rw [eb, R.1]
  have loop : ∀ (d i : Nat), i + d = cs.length → (∀ x ∈ cs.take i, x ≠ v) → ∃ r : Int, iterK bot (d + 1) (slices_Index_api_Code_api_Code_l0b k D j) sl v (cs.length : Int) (i : Int) h = some (r, h) ∧ decide (r ≥ 0) = decide (v ∈ cs) := fun d => by
   induction d with
   | zero =>
    intro i hd no
    obtain rfl : i = cs.length := by omega
    rw [List.take_length] at no
    rw [iterK_s]; simp only [slices_Index_api_Code_api_Code_l0b]
    subst hj
    refine ⟨-1, ifn (by simp) rfl, ?_⟩
    rw [decide_eq_false (by omega), decide_eq_false (fun z => no v z rfl)]
   | succ d ih =>
    intro i hd no
    rw [iterK_s]; simp only [slices_Index_api_Code_api_Code_l0b]
    obtain ⟨x, hx⟩ := isome (l := cs) (i := i) (by omega)
    obtain ⟨p, b1, b2⟩ := R.ldI hx
    by_cases c : v = x
    ·refine ⟨i, ifp (by simp; omega) (bnd b1 (bnd b2 (ifp (by simpa using c) rfl))), ?_⟩
     rw [decide_eq_true (by omega), decide_eq_true (c ▸ mem_of hx)]
    ·obtain ⟨r, hr, hd'⟩ := ih (i + 1) (by omega) (fun y hy => by
      rw [show cs.take (i + 1) = cs.take i ++ [x] by rw [List.take_add_one, hx]; rfl] at hy
      rcases List.mem_append.1 hy with hy | hy
      ·exact no y hy
      ·simp at hy; subst hy; exact fun z => c z.symm)
     refine ⟨r, ifp (by simp; omega) (bnd b1 (bnd b2 (ifn (by simpa using c) ?_))), hd'⟩
     rw [Gx.w1 (by omega)]; exact hr
  exact loop cs.length 0 (by omega) (by simp)
 obtain ⟨r, e, d⟩ := idx
 simp only [slices_Contains_api_Code_api_Code]
 rw [e]
 show some (decide (r ≥ 0), h) = _
 rw [d]
theorem first_spec {h : AHeap} {sl bl' : Slc} {cs but : List Int} (R : Row encI h sl cs) (B : Row encI h bl' but) (hl : cs.length < 9223372036854775807) (hk : cs.length < k) (hl2 : but.length < 9223372036854775807) (hk2 : but.length < k) : fan_First k D sl bl' h = some (firstC but cs, h) := by
 simp only [fan_First, joinK]
 unfold fan_First_l0
 generalize hj : (fun (h1 : AHeap) => some ((0 : Int), h1)) = j
 obtain ⟨bot, eb⟩ := iterK_of (fun _ _ _ _ _ => none) (fan_First_l0b k D j) (show cs.length + 1 ≤ k by omega)
 rw [eb, R.1]
 have loop : ∀ (d i : Nat), i + d = cs.length → iterK bot (d + 1) (fan_First_l0b k D j) bl' sl (cs.length : Int) (i : Int) h = some (firstC but (cs.drop i), h) := fun d => by
  induction d with
  | zero =>
   intro i hd
   obtain rfl : i = cs.length := by omega
   rw [iterK_s, List.drop_length]; simp only [fan_First_l0b]
   subst hj
   exact ifn (by simp) rfl
  | succ d ih =>
   intro i hd
   rw [iterK_s]; simp only [fan_First_l0b]
   obtain ⟨x, hx⟩ := isome (l := cs) (i := i) (by omega)
   obtain ⟨p, b1, b2⟩ := R.ldI hx
   refine ifp (by simp; omega) (bnd b1 (bnd b2 (jn ?_)))
   rw [dropc hx]
   by_cases c : x = 0
   ·rw [firstC_skip (.inl c)]
    refine ifn (by simp [c]) (ifn (fun z => by cases z) ?_)
    rw [Gx.w1 (by omega)]; exact ih (i + 1) (by omega)
   ·refine ifp (by simp [c]) (bnd (contains_spec B x hl2 hk2) ?_)
    by_cases c2 : x ∈ but
    ·rw [firstC_skip (.inr c2)]
     refine ifn (by simp [c2]) ?_
     rw [Gx.w1 (by omega)]; exact ih (i + 1) (by omega)
    ·rw [firstC_hit (fun z => z.elim c c2)]
     exact ifp (by simp [c2]) rfl
 exact loop cs.length 0 (by omega)
theorem rfirst_spec {h : AHeap} {sl bl' : Slc} {cs but : List Int} (R : Row encI h sl cs) (B : Row encI h bl' but) (hl : cs.length < 9223372036854775807) (hk : cs.length < k) (hl2 : but.length < 9223372036854775807) (hk2 : but.length < k) : ref09_First k D sl bl' h = some (firstC but cs, h) := by
 simp only [ref09_First, joinK]
 unfold ref09_First_l0
 generalize hj : (fun (h1 : AHeap) => some ((0 : Int), h1)) = j
 obtain ⟨bot, eb⟩ := iterK_of (fun _ _ _ _ => none) (ref09_First_l0b k D j) (show cs.length + 1 ≤ k by omega)
 rw [eb]
 have loop : ∀ (d i : Nat), i + d = cs.length → iterK bot (d + 1) (ref09_First_l0b k D j) sl bl' (i : Int) h = some (firstC but (cs.drop i), h) := fun d => by
  induction d with
  | zero =>
   intro i hd
   obtain rfl : i = cs.length := by omega
   rw [iterK_s, List.drop_length]; simp only [ref09_First_l0b]
   subst hj
   exact ifn (by rw [R.1]; simp) rfl
  | succ d ih =>
   intro i hd
   rw [iterK_s]; simp only [ref09_First_l0b]
   obtain ⟨x, hx⟩ := isome (l := cs) (i := i) (by omega)
   obtain ⟨p, b1, b2⟩ := R.ldI hx
   refine ifp (by rw [R.1]; simp; omega) (jn (bnd b1 (bnd b2 (jn ?_))))
   rw [dropc hx]
   simp only [firstC]
   generalize hJ : (fun (codes15 : Slc) (but16 : Slc) (i17 : Int) (skip18 : Bool) (h19 : AHeap) => _) = J
   unfold ref09_First_l1
   obtain ⟨bot', eb'⟩ := iterK_of (fun _ _ _ _ _ _ => none) (ref09_First_l1b k D J) (show but.length + 1 ≤ k by omega)
   rw [eb']
   have fin : ∀ sk : Bool, sk = decide (x = 0 ∨ x ∈ but) → J sl bl' (i : Int) sk h = some (if x = 0 ∨ x ∈ but then firstC but (cs.drop (i + 1)) else x, h) := by
    intro sk hs
    subst hJ
    by_cases c : x = 0 ∨ x ∈ but
    ·rw [decide_eq_true c] at hs; subst hs
     rw [if_pos c]
     refine ifn (fun z => by cases z) ?_
     rw [Gx.w1 (by omega)]; exact ih (i + 1) (by omega)
    ·rw [decide_eq_false c] at hs; subst hs
     rw [if_neg c]
     exact ifp rfl (bnd b1 (bnd b2 rfl))
   have inner : ∀ (e c : Nat) (sk : Bool), c + e = but.length → sk = decide (x = 0 ∨ x ∈ but.take c) → iterK bot' (e + 1) (ref09_First_l1b k D J) sl bl' (i : Int) sk (c : Int) h = some (if x = 0 ∨ x ∈ but then firstC but (cs.drop (i + 1)) else x, h) := fun e => by
    induction e with
    | zero =>
     intro c sk hc hs
     obtain rfl : c = but.length := by omega
     rw [List.take_length] at hs
     rw [iterK_s]; simp only [ref09_First_l1b]
     exact ifn (by rw [B.1]; simp) (fin sk hs)
    | succ e ihe =>
     intro c sk hc hs
     rw [iterK_s]; simp only [ref09_First_l1b]
     obtain ⟨y, hy⟩ := isome (l := but) (i := c) (by omega)
     obtain ⟨q, d1, d2⟩ := B.ldI hy
     have et : but.take (c + 1) = but.take c ++ [y] := by rw [List.take_add_one, hy]; rfl
     refine ifp (by rw [B.1]; simp; omega) (jn ?_)
     cases sk with
     | true =>
      refine ifp rfl ?_
      dsimp only
      rw [Gx.w1 (by omega)]
      refine ihe (c + 1) true (by omega) ?_
      have : x = 0 ∨ x ∈ but.take c := by simpa using hs.symm
      rw [et, decide_eq_true (this.imp id fun z => List.mem_append_left _ z)]
     | false =>
      have no : ¬ (x = 0 ∨ x ∈ but.take c) := by simpa using hs.symm
      refine ifn (fun z => by cases z) (bnd b1 (bnd b2 (bnd d1 (bnd d2 ?_))))
      dsimp only
      rw [Gx.w1 (by omega)]
      refine ihe (c + 1) _ (by omega) ?_
      rw [et]
      have n1 : x ≠ 0 := fun z => no (.inl z)
      have n2 : x ∉ but.take c := fun z => no (.inr z)
      simp [n1, n2]; rfl
   refine inner but.length 0 _ (by omega) ?_
   simp; rfl
 exact loop cs.length 0 (by omega)
end
end Gt
namespace Gt
open Go Gx
theorem splice_app {a b c d : List Value} (h : d.length = b.length) : splice (a ++ b ++ c) a.length d = a ++ d ++ c := by
 unfold splice
 have e1 : (a ++ b ++ c).take a.length = a := by rw [List.append_assoc, List.take_left']; rfl
 have e2 : (a ++ b ++ c).drop (a.length + d.length) = c := by rw [show a.length + d.length = (a ++ b).length by simp [h], List.drop_left']; rfl
 rw [e1, e2]
theorem split_at {xs : List Rq} {i : Nat} {x : Rq} (hx : xs[i]? = some x) : xs = xs.take i ++ x :: xs.drop (i + 1) := by rw [← dropc hx, List.take_append_drop]
theorem flat_at {xs : List Rq} {i : Nat} {x : Rq} (hx : xs[i]? = some x) : xs.flatMap encQ = (xs.take i).flatMap encQ ++ encQ x ++ (xs.drop (i + 1)).flatMap encQ := by
 conv => lhs; rw [split_at hx]
 rw [List.flatMap_append, List.flatMap_cons, List.append_assoc]
theorem flat_len {xs : List Rq} {i : Nat} (hi : i ≤ xs.length) : ((xs.take i).flatMap encQ).length = i * 4 := by
 rw [flatW_length encQ_len, List.length_take, Nat.min_eq_left hi]
theorem set_split {xs : List Rq} {i : Nat} {x y : Rq} (hx : xs[i]? = some x) : (xs.set i y).flatMap encQ = (xs.take i).flatMap encQ ++ encQ y ++ (xs.drop (i + 1)).flatMap encQ := by
 have hi := (List.getElem?_eq_some_iff.1 hx).1
 rw [flat_at (xs := xs.set i y) (i := i) (x := y) (by rw [List.getElem?_set]; simp [hi]), List.take_set_of_le (Nat.le_refl _), List.drop_set_of_lt (Nat.lt_succ_self _)]
theorem stQ {h : AHeap} {b i : Nat} {xs : List Rq} {x y : Rq} (hb : h.get b = some (.cells (xs.flatMap encQ) 51 true 0)) (hx : xs[i]? = some x) :
  Gx.stL 4 ⟨b, i * 4, none⟩ (encQ y) h = some (h.set b (.cells ((xs.set i y).flatMap encQ) 51 true 0)) := by
 have hi := (List.getElem?_eq_some_iff.1 hx).1
 have := stL_part (cs := encQ y) (o := i * 4) (sp := none) hb (by simp [encQ]) (by rw [flatW_length encQ_len, encQ_len]; omega) (encQ_one y)
 rw [encQ_len] at this
 rw [this]
 congr 3
 rw [flat_at hx, set_split hx]
 have := splice_app (a := (xs.take i).flatMap encQ) (b := encQ x) (c := (xs.drop (i + 1)).flatMap encQ) (d := encQ y) rfl
 rw [flat_len (Nat.le_of_lt hi)] at this
 exact this
theorem stQ1 {h : AHeap} {b i j : Nat} {xs : List Rq} {x y : Rq} {v : Value} (hb : h.get b = some (.cells (xs.flatMap encQ) 51 true 0)) (hx : xs[i]? = some x) (hj : j < 4) (hv : one v = true) (hy : (encQ x).set j v = encQ y) :
  Gx.st1 ⟨b, i * 4 + j, none⟩ v h = some (h.set b (.cells ((xs.set i y).flatMap encQ) 51 true 0)) := by
 have hi := (List.getElem?_eq_some_iff.1 hx).1
 rw [st1_sb hb (by rw [flatW_length encQ_len]; omega) hv]
 congr 3
 rw [flat_at hx, set_split hx, ← hy, List.set_append_left, List.set_append_right, flat_len (Nat.le_of_lt hi)]
 ·simp
 ·rw [flat_len (Nat.le_of_lt hi)]; omega
 ·rw [List.length_append, flat_len (Nat.le_of_lt hi), encQ_len]; omega
theorem zerosQ (n : Nat) : zerosL n [.int .i64 0, .int .i64 0, .string ⟨#[]⟩, .string ⟨#[]⟩] = (List.replicate n q0).flatMap encQ := by
 show (List.replicate n [_, _, _, _]).flatten = _
 rw [List.flatMap, List.map_replicate]; rfl
theorem map_set {α : Type} (n i : Nat) (f : Nat → α) (v : α) : ((List.range n).map f).set i v = (List.range n).map fun j => if j = i then v else f j := by
 apply List.ext_getElem?
 intro j
 rw [List.getElem?_set]
 simp only [List.getElem?_map, List.length_map, List.length_range]
 by_cases hj : j < n
 ·rw [List.getElem?_range hj]
  by_cases e : i = j
  ·subst e; simp [hj]
  ·have : ¬ j = i := fun z => e z.symm
   simp [e, this]
 ·have : (List.range n)[j]? = none := List.getElem?_eq_none (by simp; omega)
  rw [this]
  by_cases e : i = j
  ·subst e; simp [hj]
  ·simp [e]
def may (n : Int) : Bool := decide (1 ≤ n ∧ n ≤ 255)
def askL (n : Int) (kind : Int) (name data : ByteArray) : List Rq := if may n = true then (List.range n.toNat).map (fun i : Nat => ((i : Int), kind, name, data)) else []
section
variable {k : Nat} {D : CallF}
theorem ask_spec {h : AHeap} (n kind : Int) (name data : ByteArray) (hk : 256 < k) : Gx.Wp (fan_ask k D n (0, kind, name, data) h) fun z => Keeps h z.2 ∧
  ((may n = false ∧ z.1 = nils) ∨ (may n = true ∧ ∃ b, z.1 = ⟨some ⟨b, 0, some 0⟩, n.toNat, n.toNat⟩ ∧ h.next ≤ b ∧ b < z.2.next ∧ z.2.get b = some (.cells ((askL n kind name data).flatMap encQ) 51 true 0))) := by
 simp only [fan_ask]
 refine Gx.Wp.new fun H1 k1 n1 g1 => Gx.Wp.bnd (may_spec9 k D n H1) ?_
 by_cases c : 1 ≤ n ∧ n ≤ 255
 ·rw [decide_eq_true c]
  have hm : may n = true := decide_eq_true c
  obtain ⟨m, rfl⟩ : ∃ m : Nat, n = (m : Int) := ⟨n.toNat, by omega⟩
  refine Gx.Wp.ifn (fun z => by cases z) (Gx.Wp.ifp ⟨by omega, by omega, by omega, by omega⟩ (Gx.Wp.new fun H3 k3 n3 g3 => Gx.Wp.jn fun j hj => ?_))
  rw [zerosQ, Int.toNat_natCast] at g3
  unfold fan_ask_l0
  obtain ⟨bot, eb⟩ := iterK_of (fun _ _ _ _ _ => none) (fan_ask_l0b k D j) (show m + 1 ≤ k by omega)
  rw [eb, Int.toNat_natCast]
  dsimp only at n3 g3 k3 ⊢
  have q3 := k3.got (by omega) g1
  have loop : ∀ (d i : Nat) (h' : AHeap), i + d = m → Chg (· = H1.next) H3 h' → h'.next = H3.next → h'.get H1.next = some (.cells (((List.range m).map fun j => if j < i then ((j : Int), kind, name, data) else q0).flatMap encQ) 51 true 0) →
    Gx.Wp (iterK bot (d + 1) (fan_ask_l0b k D j) (some ⟨h.next, 0, none⟩) ⟨some ⟨H1.next, 0, some 0⟩, m, m⟩ (m : Int) (i : Int) h') fun z => Keeps h z.2 ∧ ((may (m : Int) = false ∧ z.1 = nils) ∨ (may (m : Int) = true ∧ ∃ b, z.1 = ⟨some ⟨b, 0, some 0⟩, m, m⟩ ∧ h.next ≤ b ∧ b < z.2.next ∧ z.2.get b = some (.cells ((askL (m : Int) kind name data).flatMap encQ) 51 true 0))) := fun d => by
   induction d with
   | zero =>
    intro i h' hd c' n' g'
    obtain rfl : i = m := by omega
    rw [iterK_s]; simp only [fan_ask_l0b]
    subst hj
    refine Gx.Wp.ifn (by simp) (Gx.Wp.of ⟨Chg.beh (T := (· = H1.next)) (k1.trans k3) c' fun y hy q => by omega, .inr ⟨hm, H1.next, rfl, by omega, by dsimp only; omega, ?_⟩⟩)
    rw [g']
    unfold askL
    rw [if_pos hm, Int.toNat_natCast]
    congr 3
    refine List.map_congr_left fun j hj => ?_
    rw [if_pos (by simpa using hj)]
   | succ d ih =>
    intro i h' hd c' n' g'
    rw [iterK_s]; simp only [fan_ask_l0b]
    have q' := c'.got (by omega) (by omega) q3
    have hix : ((List.range m).map fun j => if j < i then ((j : Int), kind, name, data) else q0)[i]? = some q0 := by
     rw [List.getElem?_map, List.getElem?_range (by omega)]; simp
    have ix : Gx.idxL 4 (⟨some ⟨H1.next, 0, some 0⟩, m, m⟩ : Slc) (i : Int) = some ⟨H1.next, i * 4, none⟩ := by
     simp only [idxL]
     rw [if_pos (by omega)]
     simp
    refine Gx.Wp.ifp (by simp; omega) (Gx.Wp.bnd rfl (Gx.Wp.bnd (sldA_at q' rfl) (Gx.Wp.bnd rfl (Gx.Wp.bnd ix ?_))))
    refine Gx.Wp.bnd (stQ (y := (0, kind, name, data)) g' hix) (Gx.Wp.bnd ix ?_)
    have hix2 : (((List.range m).map fun j => if j < i then ((j : Int), kind, name, data) else q0).set i (0, kind, name, data))[i]? = some (0, kind, name, data) := by
     rw [List.getElem?_set]; simp; omega
    refine Gx.Wp.bnd (stQ1 (j := 0) (y := ((i : Int), kind, name, data)) (sset_get _ _ _) hix2 (by decide) rfl rfl) ?_
    rw [Gx.w1 (by omega)]
    refine ih (i + 1) _ (by omega) (c'.trans ((Chg.set (S := (· = H1.next)) (.inr rfl)).trans (Chg.set (S := (· = H1.next)) (.inr rfl)))) n' ?_
    rw [sset_get]
    congr 3
    rw [List.set_set, map_set]
    refine List.map_congr_left fun j hj => ?_
    by_cases e : j = i
    ·subst e; simp
    ·by_cases e2 : j < i
     ·rw [if_neg e, if_pos e2, if_pos (by omega)]
     ·rw [if_neg e, if_neg e2, if_neg (by omega)]
  refine loop m 0 H3 (by omega) (Chg.refl _ _) rfl ?_
  rw [g3]
  congr 3
  simp only [Nat.not_lt_zero, if_false]
  rw [List.map_const', List.length_range]
 ·rw [decide_eq_false c]
  exact Gx.Wp.ifp rfl (Gx.Wp.of ⟨k1, .inl ⟨decide_eq_false c, rfl⟩⟩)
end
end Gt
namespace Gt
open Go Gx
def ThenC (L : Nat → CallF) (N c ib : Nat) (g : Nat) (x y : Array Value) (len : Nat) (K : List Int → Prg) (O : Nat → Prop) (h : AHeap) : Prop :=
 ∀ n, c ≤ n → ∀ (P : Nat → Prop) (h' : AHeap) (m st : Nat) (q : Rq), (∀ y, O y → P y) → Agr (But O ib) h h' → (∀ y, P y → y < m) → m ≤ h'.next → P ib → h'.get ib = some (.cells (ioC q .nilFunc false 0 0 nils nils st) 89 true 0) →
  ∀ (cs : List Int) (sl : Slc), Row encI h' sl cs → cs.length = len → (∀ a, sl.a = some a → m ≤ a.block ∧ a.block < h'.next) →
  Does (L n) g x y [.slice sl.a sl.len sl.cap] h' fun h'' => Chg (In P m) h' h'' ∧ IoQ L N ib (K cs) st (Gr P m h'') h''
def codesY (ys : List Ry) : List Int := ys.map (·.1)
theorem say_codes {h : AHeap} {xs : List Rp} {ys : List Ry} (S : Say h xs ys) : xs.map (·.1) = codesY ys := by
 apply List.ext_getElem?
 intro i
 simp only [codesY, List.getElem?_map]
 by_cases hi : i < xs.length
 ·obtain ⟨x, hx⟩ := isome hi
  obtain ⟨y, hy⟩ := isome (l := ys) (i := i) (by rw [← S.1]; exact hi)
  rw [hx, hy]
  simp [(S.2 i x y hx hy).1]
 ·rw [List.getElem?_eq_none (by omega), List.getElem?_eq_none (by rw [← S.1]; omega)]; rfl
section
variable {k N c ib b len : Nat} {g : Nat} {x y : Array Value} {K : List Int → Prg} {O : Nat → Prop} {h : AHeap}
theorem then_codes {X : Slc → Option Addr → AHeap → Nat → Option (Unit × AHeap)} {gn : Nat} (hgn : gn ∈ closL) (hX : ∀ (n : Nat) (sl : Slc) (a : Option Addr) (h : AHeap), ∀ (R : Type) (κ : Value → AHeap → Option R), lvl k (n + 1) R gn ([.slice sl.a sl.len sl.cap] ++ [.pointer a]) h κ = (X sl a h n).bind fun r => κ (.tuple ⟨[]⟩) r.2)
  (hW : ∀ (n : Nat) (sl : Slc) (h' : AHeap) (Q : Unit × AHeap → Prop) (s2 : Slc) (h2 : AHeap), fan_codes k (lvl k n) sl h' = some (s2, h2) → Keeps h' h2 → h'.get b = some (.cells [.func (.func g) x y] 93 true 0) → b < h'.next →
   (∀ h3, Does (lvl k n) g x y [.slice s2.a s2.len s2.cap] h2 (fun h'' => h'' = h3) → Q ((), h3)) → (∃ h3, Does (lvl k n) g x y [.slice s2.a s2.len s2.cap] h2 (fun h'' => h'' = h3)) → Gx.Wp (X sl (some ⟨b, 0, none⟩) h' n) Q)
  (T : ThenC (lvl k) N c ib g x y len K O h) (ob : But O ib b) (hb : h.get b = some (.cells [.func (.func g) x y] 93 true 0)) (hl : len ≤ 1048576) (hk : len < k) :
  ThenP (lvl k) N (c + 1) ib gn ⟨[]⟩ ⟨[ptr b]⟩ len (fun ys => K (codesY ys)) O h := by
 intro n hn P h' m st q sub ag lt hm hP hio ys xs sl R S hys ow so sm
 obtain ⟨n', rfl⟩ : ∃ n', n = n' + 1 := ⟨n - 1, by omega⟩
 have lb := lt _ (sub _ ob.1)
 have hb' := (ag.eq _ ob).trans hb
 have lx : xs.length = len := by rw [S.1]; exact hys
 refine Does.of (X := X sl (some ⟨b, 0, none⟩) h' n') hgn (fun R κ => hX n' sl _ h' R κ) ?_
 obtain ⟨z, hz, k1, A⟩ := codes_spec (k := k) (D := lvl k n') R (by omega) (by omega)
 rw [say_codes S] at A
 have n1 := k1.nx
 have li := lt _ hP
 have d := T n' (by omega) P z.2 m st q sub (ag.trans (chg_agr k1 (fun y o => by have := lt _ (sub _ o.1); omega) fun y o f => f)) lt (by omega) hP (k1.got (by omega) hio) (codesY ys) z.1 A.row (by simp [codesY, hys]) (fun a ha => ⟨by have := (A.lt a ha).2; omega, (A.lt a ha).1⟩)
 obtain ⟨hg, h3, qq, e⟩ := d
 refine hW n' sl h' _ z.1 z.2 hz k1 hb' (by omega) (fun h4 d4 => ?_) ⟨h3, hg, h3, rfl, e⟩
 obtain ⟨_, h5, rfl, e5⟩ := d4
 have : h3 = h5 := by
  have := (e AHeap fun _ h => some h).symm.trans (e5 AHeap fun _ h => some h)
  exact Option.some.inj this
 subst this
 obtain ⟨c3, i3⟩ := qq
 exact ⟨(Chg.keeps k1).trans c3, i3⟩
theorem run_does {D : CallF} {g : Nat} {x y : Array Value} {args : List Value} {h : AHeap} {es : List Ent} (hes : apartC es = true) {Q : Unit × AHeap → Prop} (w : ∃ h3, Does D g x y args h fun h'' => h'' = h3) (k : ∀ h3, Does D g x y args h (fun h'' => h'' = h3) → Q ((), h3)) :
  Gx.Wp (callD (mkC D es) (.func (.func g) x y) args h fun _ h8 => some ((), h8)) Q := by
 obtain ⟨h3, d⟩ := w
 exact Does.wp d hes fun h4 e4 => by subst e4; exact Gx.Wp.of (k _ d)
theorem then123 (T : ThenC (lvl k) N c ib g x y len K O h) (ob : But O ib b) (hb : h.get b = some (.cells [.func (.func g) x y] 93 true 0)) (hl : len ≤ 1048576) (hk : len < k) : ThenP (lvl k) N (c + 1) ib 68 ⟨[]⟩ ⟨[ptr b]⟩ len (fun ys => K (codesY ys)) O h := by
 refine then_codes (X := fun sl a h n => fan_Puts_1 k (lvl k n) sl a h) (by decide) (fun n sl a h R κ => rfl) (fun n sl h' Q s2 h2 e k1 hb' lb q w => ?_) T ob hb hl hk
 simp only [fan_Puts_1]
 refine Gx.Wp.bnd e (Gx.Wp.bnd rfl (Gx.Wp.bnd (ldV_at (k1.got lb hb') rfl) (Gx.Wp.gp (ssw1 (bnd rfl (bnd (ldV_at hb' rfl) rfl))) ?_)))
 exact run_does (by kernel_rfl) w q
theorem then126 (T : ThenC (lvl k) N c ib g x y len K O h) (ob : But O ib b) (hb : h.get b = some (.cells [.func (.func g) x y] 93 true 0)) (hl : len ≤ 1048576) (hk : len < k) : ThenP (lvl k) N (c + 1) ib 101 ⟨[]⟩ ⟨[ptr b]⟩ len (fun ys => K (codesY ys)) O h := by
 refine then_codes (X := fun sl a h n => fan_Dels_1 k (lvl k n) sl a h) (by decide) (fun n sl a h R κ => rfl) (fun n sl h' Q s2 h2 e k1 hb' lb q w => ?_) T ob hb hl hk
 simp only [fan_Dels_1]
 refine Gx.Wp.bnd e (Gx.Wp.bnd rfl (Gx.Wp.bnd (ldV_at (k1.got lb hb') rfl) (Gx.Wp.gp (ssw1 (bnd rfl (bnd (ldV_at hb' rfl) rfl))) ?_)))
 exact run_does (by kernel_rfl) w q
theorem then86 {b1 : Nat} (ob : But O ib b1) (hb : h.get b1 = some (.cells [ptr ib] 34 true 0)) (hl : len ≤ 1048576) (hk : len < k) : ThenC (lvl k) N 1 ib 56 ⟨[]⟩ ⟨[ptr b1]⟩ len (fun cs => finP ⟨firstC [] cs, goodC cs, [], []⟩) O h := by
 intro n hn P h' m st q sub ag lt hm hP hio cs sl R hcs ow
 obtain ⟨n', rfl⟩ : ∃ n', n = n' + 1 := ⟨n - 1, by omega⟩
 have lb := lt _ (sub _ ob.1)
 have li := lt _ hP
 have hb' := (ag.eq _ ob).trans hb
 refine Does.of (X := fan_PutJob_1_1 k (lvl k n') sl (some ⟨b1, 0, none⟩) h') (by decide) (fun R κ => rfl) ?_
 simp only [fan_PutJob_1_1]
 have hnil : Row encI h' (⟨none, 0, 0⟩ : Slc) [] := ⟨rfl, fun i x hx => by simp at hx⟩
 refine Gx.Wp.bnd (first_spec R hnil (by omega) (by omega) (by decide) (by show 0 < k; omega)) (Gx.Wp.bnd (good_spec R (by omega) (by omega)) (Gx.Wp.bnd rfl (Gx.Wp.bnd (ldP_at hb' rfl) (Gx.Wp.gp ?_ ?_))))
 ·intro H hH
  simp at hH
  rcases hH with rfl | rfl <;> exact bnd rfl (bnd (ldP_at hb' rfl) rfl)
 ·refine Gx.Wp.call (End_spec (lvl k n') hio (by dsimp only; omega)) fun z hz => Gx.Wp.of ?_
  obtain ⟨c1, g1⟩ := hz
  exact ⟨c1.wk fun y _ q => .inl (q ▸ hP), fun _ _ => trivial, .inl ⟨q, nils, nils, g1, ⟨rfl, fun i x hx => by simp at hx⟩, ⟨rfl, fun i x hx => by simp at hx⟩, (fun a ha => by cases ha), (fun a ha => by cases ha)⟩⟩
end
end Gt
namespace Gt
open Go Gx
def putsL (name : ByteArray) (data : List ByteArray) : List Rq := if may data.length = true then (List.range data.length).map (fun i : Nat => ((i : Int), (1 : Int), name, (data[i]?).getD nob)) else []
theorem putsL_len {name : ByteArray} {data : List ByteArray} : (putsL name data).length ≤ 255 := by
 unfold putsL
 split
 ·rename_i h
  have : 1 ≤ (data.length : Int) ∧ (data.length : Int) ≤ 255 := by simpa [may] using h
  simp; omega
 ·exact Nat.zero_le _
theorem askL_len {n kind : Int} {name data : ByteArray} : (askL n kind name data).length ≤ 255 := by
 unfold askL
 split
 ·rename_i h
  have : 1 ≤ n ∧ n ≤ 255 := by simpa [may] using h
  simp; omega
 ·exact Nat.zero_le _
section
variable {k N c ib : Nat} {g : Nat} {x y : Array Value} {K : List Int → Prg} {O : Nat → Prop} {h : AHeap}
theorem ThenC.frame {len : Nat} {L : Nat → CallF} {P : Nat → Prop} {h2 : AHeap} (T : ThenC L N c ib g x y len K O h) (sub : ∀ y, O y → P y) (a : Agr (But O ib) h h2) : ThenC L N c ib g x y len K P h2 :=
 fun n hn P' h' m st q s ag => T n hn P' h' m st q (fun y o => s y (sub y o)) (a.trans (ag.wk fun y o => ⟨sub y o.1, o.2⟩))
theorem ThenC.none {len : Nat} {L : Nat → CallF} (T : ∀ len, ThenC L N c ib g x y len K O h) : ThenC L N c ib g x y len K O h := T len
theorem Puts_io {n st m : Nat} {q : Rq} {name : ByteArray} {dsl : Slc} {data : List ByteArray} (hN : c + 4 ≤ N) (hn : c + 3 ≤ n) (hk : 1000 < k) (T : ThenC (lvl k) N c ib g x y (putsL name data).length K O h) (hO : O ib) (lt : ∀ y, O y → y < m) (hm : m ≤ h.next)
  (hio : h.get ib = some (.cells (ioC q .nilFunc false 0 0 nils nils st) 89 true 0)) (R : Row encS h dsl data) :
  Gx.Wp (fan_Puts k (lvl k n) (some ⟨ib, 0, none⟩) name dsl (.func (.func g) x y) h) fun z => Chg (In O m) h z.2 ∧ IoQ (lvl k) N ib (askAll (putsL name data) [] fun ys => K (codesY ys)) st (Gr O m z.2) z.2 := by
 simp only [fan_Puts]
 have ec : (Value.func (.func g) x y).cells.toList = [.func (.func g) x y] := rfl
 rw [ec]
 have li := lt _ hO
 refine Gx.Wp.new fun H1 k1 n1 g1 => Gx.Wp.call (ask_spec _ 1 name ⟨#[]⟩ (by omega)) fun r2 q2 => ?_
 obtain ⟨k2, q2⟩ := q2
 have n2 := k2.nx
 rw [R.1] at q2
 have fin : ∀ (l : Slc) (H : AHeap), Keeps H1 H → RowW 4 encQ H l (putsL name data) → Gx.Wp ((port_IO_All k (lvl k n) (some ⟨ib, 0, none⟩) l (.func (.func 68) ⟨[]⟩ ⟨[.pointer (some ⟨h.next, 0, none⟩)]⟩) H).bind fun r8 => some ((), r8.2)) fun z => Chg (In O m) h z.2 ∧ IoQ (lvl k) N ib (askAll (putsL name data) [] fun ys => K (codesY ys)) st (Gr O m z.2) z.2 := by
  intro l H kH RH
  have nH := kH.nx
  have kk : Keeps h H := k1.trans kH
  have T2 : ThenC (lvl k) N c ib g x y (putsL name data).length K (fun y => O y ∨ y = h.next) H := T.frame (fun y o => .inl o) (chg_agr kk (fun y o => by have := lt _ o.1; omega) fun y o f => f)
  have hl : (putsL name data).length ≤ 255 := putsL_len
  have A := All_io (k := k) (N := N) (c := c + 1) (n := n) (qs := putsL name data) (l := l) (O := fun y => O y ∨ y = h.next) (m := H.next) (by omega) (by omega) (then123 T2 ⟨.inr rfl, by omega⟩ (kH.got (by omega) g1) (by omega) (by omega)) (.inl hO) (fun y o => by rcases o with o | o; have := lt y o; omega; omega) (Nat.le_refl _) (kk.got (by omega) hio) RH (by omega)
  refine Gx.Wp.call A fun z hz => Gx.Wp.of ?_
  obtain ⟨cz, iz⟩ := hz
  have nz := cz.nx
  refine ⟨Chg.beh (Chg.keeps kk) cz fun y hy o => ?_, iz.mono fun y o => ?_⟩
  ·rcases o with (o | o) | o
   ·exact .inl o
   ·omega
   ·omega
  ·rcases o with (o | o) | o
   ·exact .inl o
   ·exact .inr ⟨by omega, by dsimp only; omega⟩
   ·exact .inr ⟨by omega, o.2⟩
 refine Gx.Wp.jn fun j7 hj => ?_
 unfold fan_Puts_l0
 rcases q2 with ⟨hm0, e2⟩ | ⟨hm1, b, e2, hb1, hb2, hb⟩
 ·rw [e2]
  obtain ⟨bot, eb⟩ := iterK_of (fun _ _ _ _ _ _ _ => none) (fan_Puts_l0b k (lvl k n) j7) (show 0 + 1 ≤ k by omega)
  rw [eb, iterK_s]; simp only [fan_Puts_l0b]
  subst hj
  have e0 : putsL name data = [] := by unfold putsL; rw [if_neg (by rw [hm0]; decide)]
  exact Gx.Wp.ifn (by decide) (fin nils r2.2 k2 (by rw [e0]; exact ⟨rfl, fun i x hx => by simp at hx⟩))
 ·have hmm : 1 ≤ (data.length : Int) ∧ (data.length : Int) ≤ 255 := by simpa [may] using hm1
  rw [Int.toNat_natCast] at e2
  rw [e2]
  obtain ⟨bot, eb⟩ := iterK_of (fun _ _ _ _ _ _ _ => none) (fan_Puts_l0b k (lvl k n) j7) (show data.length + 1 ≤ k by omega)
  rw [eb]
  have loop : ∀ (d i : Nat) (H : AHeap), i + d = data.length → Chg (· = b) r2.2 H → H.get b = some (.cells (((List.range data.length).map fun j : Nat => ((j : Int), (1 : Int), name, if j < i then (data[j]?).getD nob else nob)).flatMap encQ) 51 true 0) →
    Gx.Wp (iterK bot (d + 1) (fan_Puts_l0b k (lvl k n) j7) (some ⟨ib, 0, none⟩) dsl (some ⟨h.next, 0, none⟩) ⟨some ⟨b, 0, some 0⟩, data.length, data.length⟩ (data.length : Int) (i : Int) H) fun z => Chg (In O m) h z.2 ∧ IoQ (lvl k) N ib (askAll (putsL name data) [] fun ys => K (codesY ys)) st (Gr O m z.2) z.2 := fun d => by
   induction d with
   | zero =>
    intro i H hd cH gH
    obtain rfl : i = data.length := by omega
    rw [iterK_s]; simp only [fan_Puts_l0b]
    subst hj
    have e1 : ((List.range data.length).map fun j : Nat => ((j : Int), (1 : Int), name, if j < data.length then (data[j]?).getD nob else nob)) = putsL name data := by
     unfold putsL
     rw [if_pos hm1]
     refine List.map_congr_left fun j hj => ?_
     rw [if_pos (by simpa using hj)]
    rw [e1] at gH
    have hn := cH.nx
    have RQ := rowW_blk (cap := data.length) (sp := some 0) encQ_len gH (by omega) (Nat.le_refl _)
    rw [List.take_length] at RQ
    have lq : (putsL name data).length = data.length := by rw [← e1]; simp
    rw [lq] at RQ
    exact Gx.Wp.ifn (by simp) (fin _ H (Chg.beh (T := (· = b)) k2 cH fun y hy o => by omega) RQ)
   | succ d ih =>
    intro i H hd cH gH
    rw [iterK_s]; simp only [fan_Puts_l0b]
    have kk : Keeps h H := Chg.beh (T := (· = b)) (k1.trans k2) cH fun y hy o => by omega
    obtain ⟨dt, hdt⟩ := isome (l := data) (i := i) (by omega)
    obtain ⟨p, p1, p2⟩ := (Row.keeps R kk).ldS hdt
    have hix : ((List.range data.length).map fun j : Nat => ((j : Int), (1 : Int), name, if j < i then (data[j]?).getD nob else nob))[i]? = some ((i : Int), (1 : Int), name, nob) := by
     rw [List.getElem?_map, List.getElem?_range (by omega)]; simp
    have ix : Gx.idxL 4 (⟨some ⟨b, 0, some 0⟩, data.length, data.length⟩ : Slc) (i : Int) = some ⟨b, i * 4, none⟩ := by
     simp only [idxL]
     rw [if_pos (by omega)]
     simp
    refine Gx.Wp.ifp (by simp; omega) (Gx.Wp.bnd p1 (Gx.Wp.bnd p2 (Gx.Wp.bnd ix (Gx.Wp.bnd (stQ1 (j := 3) (y := ((i : Int), (1 : Int), name, dt)) gH hix (by decide) rfl rfl) ?_))))
    rw [Gx.w1 (by omega)]
    refine ih (i + 1) _ (by omega) (cH.trans (Chg.set (.inr rfl))) ?_
    rw [sset_get]
    congr 3
    rw [map_set]
    refine List.map_congr_left fun j hj => ?_
    by_cases e : j = i
    ·subst e; simp [hdt]
    ·by_cases e2 : j < i
     ·rw [if_neg e, if_pos e2, if_pos (by omega)]
     ·rw [if_neg e, if_neg e2, if_neg (by omega)]
  refine loop data.length 0 r2.2 (by omega) (Chg.refl _ _) ?_
  rw [hb]
  congr 3
  unfold askL
  rw [if_pos hm1, Int.toNat_natCast]
  rfl
end
end Gt
namespace Gt
open Go Gx
def fanP (n : Int) (p : Prg) : Prg := if may n = true then p else finP ⟨1, 0, [], []⟩
theorem fanJob {k N n : Nat} (hn : 2 ≤ n) {n0 : Int} {g : Nat} {x y : Array Value} {p : Prg} {h : AHeap}
  (run : may n0 = true → ∀ (h' : AHeap) (ib : Nat), Keeps h h' → h.next ≤ ib → ib < h'.next → h'.get ib = some (.cells (ioC q0 .nilFunc false 0 0 nils nils 0) 89 true 0) →
   Does (lvl k (n - 1)) g x y [ptr ib] h' fun h'' => Chg (In (fun y => y = ib) h'.next) h' h'' ∧ IoQ (lvl k) N ib p 0 (Gr (fun y => y = ib) h'.next h'') h'') :
  Gx.Wp (fan_job k (lvl k n) n0 (.func (.func g) x y) h) fun z => ∃ jb O, z.1 = some ⟨jb, 0, none⟩ ∧ Keeps h z.2 ∧ JobP (lvl k) N jb (fanP n0 p) 0 O z.2 ∧ (∀ y, O y → h.next ≤ y) ∧ h.next ≤ jb := by
 simp only [fan_job]
 have ec : (Value.func (.func g) x y).cells.toList = [.func (.func g) x y] := rfl
 rw [ec]
 refine Gx.Wp.new fun H1 k1 n1 g1 => Gx.Wp.new fun H2 k2 n2 g2 => ?_
 obtain ⟨n', rfl⟩ : ∃ n', n = n' + 1 := ⟨n - 1, by omega⟩
 obtain ⟨ib, eib⟩ : ∃ ib, ib = H2.next := ⟨_, rfl⟩
 refine Gx.Wp.call (Start_P (L := lvl k) (N := N) (p := fanP n0 p) (O := fun _ => False) (fun y f => f.elim) fun h' kp h2 hio => ?_) fun r hr => ?_
 ·rw [← eib] at hio h2 ⊢
  refine Does.of (X := fan_job_1 k (lvl k n') (some ⟨ib, 0, none⟩) (some ⟨h.next, 0, none⟩) (some ⟨H1.next, 0, none⟩) h') (by decide) (fun R κ => rfl) ?_
  simp only [fan_job_1]
  have np := kp.nx
  have b1 := kp.got (by omega) (k2.got (by omega) g1)
  have b2 := kp.got (by omega) g2
  refine Gx.Wp.bnd rfl (Gx.Wp.bnd (sldI_at b1 rfl) (Gx.Wp.bnd (may_spec9 k _ n0 h') ?_))
  by_cases c : 1 ≤ n0 ∧ n0 ≤ 255
  ·have hm : may n0 = true := decide_eq_true c
   rw [decide_eq_true c]
   refine Gx.Wp.ifn (fun z => by cases z) (Gx.Wp.bnd rfl (Gx.Wp.bnd (ldV_at b2 rfl) ?_))
   refine Does.wp (run hm h' ib ((k1.trans k2).trans kp) (by omega) h2 hio) (by kernel_rfl) fun h6 q6 => Gx.Wp.of ?_
   unfold fanP
   rw [if_pos hm]
   exact ⟨q6.1.wk fun y _ z => z.imp .inr id, q6.2.mono fun y z => z.imp .inr id⟩
  ·have hm : may n0 = false := decide_eq_false c
   rw [decide_eq_false c]
   refine Gx.Wp.ifp rfl (Gx.Wp.call (End_spec (lvl k n') hio (by dsimp only; omega)) fun z hz => Gx.Wp.of ?_)
   obtain ⟨c1, g1'⟩ := hz
   unfold fanP
   rw [if_neg (by rw [hm]; decide)]
   exact ⟨c1.wk fun y _ q => .inl (.inr q), fun _ _ => trivial, .inl ⟨q0, nils, nils, g1', ⟨rfl, fun i x hx => by simp at hx⟩, ⟨rfl, fun i x hx => by simp at hx⟩, (fun a ha => by cases ha), (fun a ha => by cases ha)⟩⟩
 ·obtain ⟨jb, O, e, c, J, _, far, hj⟩ := hr
  exact Gx.Wp.of ⟨jb, O, e, (k1.trans k2).trans (c.wk fun y _ f => f), J, fun y o => (far y o).elim (fun f => f.elim) fun q => by omega, by omega⟩
def codesZ (cs : List Int) : Rz := ⟨firstC [] cs, goodC cs, [], []⟩
def putP (name : ByteArray) (data : List ByteArray) : Prg := fanP data.length (askAll (putsL name data) [] fun ys => finP (codesZ (codesY ys)))
theorem PutJob_P {k n : Nat} (hn : 8 ≤ n) (hk : 1000 < k) {h : AHeap} {name : ByteArray} {dsl : Slc} {data : List ByteArray} (R : Row encS h dsl data) (hl : data.length ≤ 1099511627776) :
  Gx.Wp (fan_PutJob k (lvl k n) name dsl h) fun z => ∃ jb O, z.1 = some ⟨jb, 0, none⟩ ∧ Keeps h z.2 ∧ JobP (lvl k) 5 jb (putP name data) 0 O z.2 ∧ (∀ y, O y → h.next ≤ y) ∧ h.next ≤ jb := by
 simp only [fan_PutJob]
 refine Gx.Wp.new fun H1 k1 n1 g1 => Gx.Wp.new fun H2 k2 n2 g2 => Gx.Wp.bnd (sldL_at g2 rfl) ?_
 refine Gx.Wp.call (cloneS_acc (lvl k n) (s := ⟨dsl.a, dsl.len, dsl.cap⟩) (Row.keeps R (k1.trans k2)) hl) fun r4 q4 => ?_
 obtain ⟨k4, R4, f4⟩ := q4
 have n4 := k4.nx
 refine Gx.Wp.st (sp := none) (k4.got (by omega) g2) (by show 0 < 1; omega) rfl fun H5 (c5 : Chg (· = H1.next) r4.2 H5) n5 g5 => ?_
 have g5 : H5.get H1.next = some (.cells [.slice r4.1.a r4.1.len r4.1.cap] 22 true 0) := g5
 refine Gx.Wp.bnd (sldL_at g5 rfl) ?_
 have R5 : Row encS H5 ⟨r4.1.a, r4.1.len, r4.1.cap⟩ data := Row.chg R4 c5 fun a ha q => by have := f4 a ha; omega
 have len : ((⟨r4.1.a, r4.1.len, r4.1.cap⟩ : Slc).len : Int) = (data.length : Int) := by rw [R5.1]
 rw [len]
 have k5 : Keeps h H5 := Chg.beh (T := (· = H1.next)) ((k1.trans k2).trans k4) c5 fun y hy q => by omega
 have nm5 := c5.got (by omega) (by omega) (k4.got (by omega) (k2.got (by omega) g1))
 obtain ⟨n', rfl⟩ : ∃ n', n = n' + 2 := ⟨n - 2, by omega⟩
 refine Gx.Wp.call (fanJob (N := 5) (p := askAll (putsL name data) [] fun ys => finP (codesZ (codesY ys))) (by omega) fun hm h' ib kp h1 h2 hio => ?_) fun z hz => ?_
 ·refine Does.of (X := fan_PutJob_1 k (lvl k n') (some ⟨ib, 0, none⟩) (some ⟨h.next, 0, none⟩) (some ⟨H1.next, 0, none⟩) h') (by decide) (fun R κ => rfl) ?_
  simp only [fan_PutJob_1]
  have np := kp.nx
  refine Gx.Wp.new fun H7 k7 n7 g7 => Gx.Wp.bnd (ldP_at g7 rfl) (Gx.Wp.bnd rfl (Gx.Wp.bnd (ldS_at (k7.got (by omega) (kp.got (by omega) nm5)) rfl) (Gx.Wp.bnd rfl (Gx.Wp.bnd (sldL_at (k7.got (by omega) (kp.got (by omega) g5)) rfl) ?_))))
  have hl2 : (putsL name data).length ≤ 255 := putsL_len
  have P := Puts_io (k := k) (N := 5) (c := 1) (n := n') (ib := ib) (O := fun y => y = ib ∨ y = h'.next) (m := H7.next) (h := H7) (name := name) (dsl := ⟨r4.1.a, r4.1.len, r4.1.cap⟩) (data := data) (K := fun cs => finP (codesZ cs)) (by omega) (by omega) hk (then86 (b1 := h'.next) ⟨.inr rfl, by omega⟩ g7 (by omega) (by omega)) (.inl rfl) (fun y q => by omega) (Nat.le_refl _) (k7.got (by omega) hio) (Row.keeps R5 (kp.trans k7))
  refine Gx.Wp.call P fun z hz => Gx.Wp.of ?_
  obtain ⟨c, i⟩ := hz
  have nz := c.nx
  refine ⟨Chg.beh (Chg.keeps k7) c fun y hy q => ?_, i.mono fun y q => ?_⟩
  ·rcases q with (q | q) | q
   ·exact .inl q
   ·exact .inr (by omega)
   ·exact .inr (by omega)
  ·rcases q with (q | q) | q
   ·exact .inl q
   ·exact .inr ⟨by omega, by dsimp only; omega⟩
   ·exact .inr ⟨by omega, q.2⟩
 ·obtain ⟨jb, O, e, kz, J, far, hj⟩ := hz
  have := k5.nx
  exact Gx.Wp.of ⟨jb, O, e, k5.trans kz, J, fun y o => by have := far y o; omega, by omega⟩
theorem run9 {L : Nat → CallF} {k n N jb : Nat} (hn : N ≤ n) {sl : Slc} {p p' : Prg} {ss ss' : List Sb} {s m st : Nat} {O : Nat → Prop} {h : AHeap} (R : RunR k 300 p ss p' ss' s) (J : JobP L N jb p st O h) (T : Sts h sl m ss) (lts : ∀ y, SSet ss y → y < h.next ∧ ¬ JSet O jb y) (hsl : ∀ a, sl.a = some a → a.block < h.next ∧ ¬ JSet O jb a.block)
  (hm : m + s ≤ 100000) (hk : m + s < k) (hss : st + s ≤ 1048576) (l1 : p'.res.ids.length ≤ 1099511627776) (l2 : p'.res.texts.length ≤ 1099511627776) :
  Gx.Wp (law09_run k (L n) (some ⟨jb, 0, none⟩) sl h) fun z => ∃ O', z.1.2 = p'.over ∧ ResOk z.2 p'.res z.1.1 ∧ JobP L N jb p' (st + s) O' z.2 ∧ (∀ y, O' y → O y ∨ h.next ≤ y) ∧ (∀ y, SSet ss' y ↔ SSet ss y) ∧ Sts z.2 sl (m + s) ss' ∧ Chg (fun y => SSet ss y ∨ O y) h z.2 := by
 simp only [law09_run]
 refine Gx.Wp.new fun H1 k1 n1 g1 => Gx.Wp.ifn (fun z => by cases z) ?_
 have jl := J.lj
 have ol := J.lt
 refine Gx.Wp.call (Run_P (L := L) hn R (J.chg k1 fun _ _ f => f) (T.keeps k1) (fun y hy => ⟨by have := (lts y hy).1; omega, (lts y hy).2⟩) (fun a ha => ⟨by have := (hsl a ha).1; omega, (hsl a ha).2⟩) hm hk hss) fun r5 q5 => ?_
 obtain ⟨O', v, J5, sub, far, sset, T5, c5⟩ := q5
 have n5 := c5.nx
 refine Gx.Wp.call (Result_F (L n) J5 l1 l2) fun r6 q6 => ?_
 obtain ⟨⟨k6, o6⟩, fa, fb⟩ := q6
 have nin : ¬ (SSet ss h.next ∨ O h.next) := fun z => z.elim (fun z => by have := (lts _ z).1; omega) fun z => by have := ol _ z; omega
 have g6 := k6.got (by omega) (c5.got (by omega) nin g1)
 have n6 := k6.nx
 refine Gx.Wp.stL (sp := none) g6 rfl rfl rfl (by decide) fun H7 c7 n7 g7 => Gx.Wp.bnd (sldA_at g7 rfl) (Gx.Wp.bnd rfl (Gx.Wp.of ?_))
 have nO : ¬ O' h.next := fun z => (far _ z).elim (fun z => by have := ol _ z; omega) fun z => by omega
 have cA : Chg (fun y => SSet ss y ∨ O y) h H7 := Chg.beh (T := (· = h.next)) ((Chg.keeps k1).trans (c5.trans (Chg.keeps k6))) c7 fun y hy q => by omega
 refine ⟨O', ?_, ?_, (J5.chg k6 fun _ _ f => f).chg c7 (fun y hy q => ?_), fun y o => (far y o).imp id fun q => by omega, sset, (T5.keeps k6).chg c7 (fun y hy q => ?_) (fun a ha q => ?_), cA⟩
 ·dsimp only
  rw [v]
  cases p'.over <;> rfl
 ·obtain ⟨o1, o2, o3, o4, o5, o6', o7⟩ := o6
  exact ⟨o1, o2, o3, Row.chg o4 c7 fun a ha q => by have := fa a ha; omega, Row.chg o5 c7 fun a ha q => by have := fb a ha; omega, o6', o7⟩
 ·rcases hy with hy | hy
  ·exact nO (q ▸ hy)
  ·omega
 ·have := (lts y ((sset y).1 hy)).1; omega
 ·have := (hsl a ha).1; omega
end Gt
namespace Gt
open Go Gx
structure Yd (base q : Nat) (h : AHeap) (s : Slc) (ss : List Sb) : Prop where
 As : Acc encB 26 base h s ss
 sr : ∀ t ∈ ss, SR h t.1 t.2.1 (ps0 q) ∧ t.2.2 = ps0 q ∧ base ≤ t.1 ∧ base ≤ t.2.1
 aps : ss.Pairwise fun s t => ¬ SB s.1 s.2.1 t.1 ∧ ¬ SB s.1 s.2.1 t.2.1
theorem Yd.nil (base q : Nat) (h : AHeap) : Yd base q h nils [] := ⟨Acc.nil _ _ _ _, (fun t ht => by simp at ht), .nil⟩
section
variable {base q : Nat} {h : AHeap} {s : Slc} {ss : List Sb}
theorem Yd.push (M : Yd base q h s ss) (hl : ss.length ≤ 1000) (hb : base ≤ h.next) {h1 H : AHeap} (k1 : Keeps h h1) (s1 : SR h1 (h.next + 1) h.next (ps0 q)) (eH : H = h1.new (.cells [ptr (h.next + 1)] 26 true 0)) :
  ∃ s' h' x, rdS 1 (⟨some ⟨h1.next, 0, some 0⟩, 1, 1⟩ : Slc) H = some [ptr (h.next + 1)] ∧ appendA 1 8 26 H s [ptr (h.next + 1)] 1 = some (s', h') ∧ Yd base q h' s' (ss ++ [x]) ∧ Chg (fun y => base ≤ y) h h' := by
 have n1 := k1.nx
 have lt1 := s1.lt
 obtain ⟨x, ex⟩ : ∃ x : Sb, x = (h.next + 1, h.next, ps0 q) := ⟨_, rfl⟩
 have As := M.As.keeps k1
 obtain ⟨s', h3, r3, a3, As', c3, d3⟩ := Acc.pushK As encB_one x (bytes := 8) (H := H) (by rw [eH, ex]; rfl) (by omega) (by decide) (by omega)
 rw [ex] at r3 a3
 have sk : ∀ y, ofS s y → ∃ m c, h1.get y = some (.cells (.pointer m :: c) 26 true 0) := fun y ⟨a, ha, q⟩ => q ▸ accP_blk encB_ptr As ha
 refine ⟨s', h3, x, r3, a3, ⟨As', fun t ht => ?_, List.pairwise_append.2 ⟨M.aps, by simp, fun a ha b hb => ?_⟩⟩, Chg.beh (T := fun y => base ≤ y) (Chg.keeps k1) (c3.wk fun y _ ⟨a, ha, q⟩ => by have := (As.lt a ha).2; omega) fun y hy z => z⟩
 ·have S2 : SR h1 t.1 t.2.1 (ps0 q) ∧ t.2.2 = ps0 q ∧ base ≤ t.1 ∧ base ≤ t.2.1 := by
   rcases List.mem_append.1 ht with ht | ht
   ·obtain ⟨b1, b2, b3⟩ := M.sr t ht
    exact ⟨b1.keeps k1, b2, b3⟩
   ·simp at ht; subst ht ex
    exact ⟨s1, rfl, by dsimp only; omega, hb⟩
  obtain ⟨b1, b2, b3⟩ := S2
  exact ⟨b1.chg c3 (fun z => by obtain ⟨m, c, g⟩ := sk _ z; exact b1.notP g (.inl rfl)) fun z => by obtain ⟨m, c, g⟩ := sk _ z; exact b1.notP g (.inr rfl), b2, b3⟩
 ·simp at hb; subst hb ex
  have := (M.sr a ha).1.lt
  exact ⟨fun z => by rcases z with z | z <;> simp only at z <;> omega, fun z => by rcases z with z | z <;> simp only at z <;> omega⟩
theorem Yd.sts (M : Yd base q h s ss) (hq : q ≤ 1073741824) : Sts h s 0 ss := by
 refine ⟨M.As.row, fun a ha z => ?_, fun i t hi => ?_, fun i j a b hi hj hij => ?_⟩
 ·obtain ⟨t, ht, z⟩ := z
  obtain ⟨m, c, g⟩ := accP_blk encB_ptr M.As ha
  exact ((M.sr t ht).1).notP g z
 ·obtain ⟨b1, b2, _⟩ := M.sr t (mem_of hi)
  rw [b2]
  exact ⟨b1, good0, Nat.le_refl _, Nat.le_refl _, Nat.zero_le _, hq⟩
 ·refine pair_of M.aps (fun a b ha hb z => ?_) hi hj hij
  obtain ⟨z1, z2⟩ := z
  refine ⟨fun w => ?_, fun w => ?_⟩
  ·rcases w with w | w
   ·exact z1 (.inl w.symm)
   ·exact z2 (.inl w.symm)
  ·rcases w with w | w
   ·exact z1 (.inr w.symm)
   ·exact z2 (.inr w.symm)
theorem Yd.sset (M : Yd base q h s ss) {y : Nat} (z : SSet ss y) : base ≤ y ∧ y < h.next := by
 obtain ⟨t, ht, z⟩ := z
 obtain ⟨b1, b2, b3, b4⟩ := M.sr t ht
 have := b1.lt
 rcases z with rfl | rfl <;> omega
theorem Yd.ls (M : Yd base q h s ss) {a : Addr} (ha : s.a = some a) : base ≤ a.block ∧ a.block < h.next ∧ ¬ SSet ss a.block := by
 have b := M.As.lt a ha
 obtain ⟨m, c, g⟩ := accP_blk encB_ptr M.As ha
 exact ⟨b.2, b.1, fun ⟨t, ht, z⟩ => ((M.sr t ht).1).notP g z⟩
theorem Yd.maps (M : Yd base q h s ss) : ss.map (·.2.2) = List.replicate ss.length (ps0 q) := by
 have := List.eq_replicate_of_mem (l := ss.map (·.2.2)) (a := ps0 q) fun x hx => by
  obtain ⟨t, ht, rfl⟩ := List.mem_map.1 hx
  exact (M.sr t ht).2.1
 rw [List.length_map] at this
 exact this
end
theorem yard9 {k : Nat} (D : CallF) {h : AHeap} (n : Nat) (hn : n ≤ 1000) (hk : 1001 < k) : Gx.Wp (law09_yard k D (n : Int) h) fun z => ∃ ss, Yd h.next 1048576 z.2 z.1 ss ∧ Keeps h z.2 ∧ ss.length = n := by
 simp only [law09_yard]
 refine Gx.Wp.jn fun j hj => ?_
 unfold law09_yard_l0
 obtain ⟨bot, eb⟩ := iterK_of (fun _ _ _ _ => none) (law09_yard_l0b k D j) (show n + 1 ≤ k by omega)
 rw [eb]
 have loop : ∀ (d i : Nat) (s : Slc) (h' : AHeap) (ss : List Sb), i + d = n → ss.length = i → Yd h.next 1048576 h' s ss → h.next ≤ h'.next → Chg (fun y => h.next ≤ y) h h' → Gx.Wp (iterK bot (d + 1) (law09_yard_l0b k D j) s (n : Int) (i : Int) h') fun z => ∃ ss, Yd h.next 1048576 z.2 z.1 ss ∧ Keeps h z.2 ∧ ss.length = n := fun d => by
  induction d with
  | zero =>
   intro i s h' ss hd hl M hn' c
   rw [iterK_s]; simp only [law09_yard_l0b]
   subst hj
   exact Gx.Wp.ifn (by simp; omega) (Gx.Wp.of ⟨ss, M, ⟨c.nx, fun x hx _ => c.oth x hx (by omega)⟩, by omega⟩)
  | succ d ih =>
   intro i s h' ss hd hl M hn' c
   rw [iterK_s]; simp only [law09_yard_l0b]
   obtain ⟨h1, e1, k1, s1⟩ := New_spec (k := k) D (h := h') (q := 1048576) (by decide)
   refine Gx.Wp.ifp (by simp; omega) (Gx.Wp.bnd e1 (Gx.Wp.ifn (fun z => by cases z) (Gx.Wp.newE fun H eH kH nH gH => ?_)))
   obtain ⟨s', h3, x, r3, a3, M', c3⟩ := M.push (by omega) hn' k1 s1 eH
   refine Gx.Wp.bnd r3 (Gx.Wp.bnd a3 ?_)
   rw [Gx.w1 (by omega)]
   exact ih (i + 1) s' h3 _ (by omega) (by simp [hl]) M' (by have := c3.nx; omega) (c.trans c3)
 exact loop n 0 nils h [] (by omega) rfl (Yd.nil _ _ _) (Nat.le_refl _) (Chg.refl _ _)
def d9 : List ByteArray := [⟨#[120]⟩, ⟨#[121]⟩]
def q9 : List Rq := putsL ⟨#[97]⟩ d9
theorem ans9 : (ansL q9 [(0, 0, ps0 1048576), (0, 0, ps0 1048576)]).2 = [(0, nob, []), (0, nob, [])] := by kernel_rfl
theorem put9 : putP ⟨#[97]⟩ d9 = askAll q9 [] fun ys => finP (codesZ (codesY ys)) := by
 unfold putP fanP
 rw [if_pos (show may (d9.length : Int) = true by kernel_rfl)]; rfl
theorem works9 {k : Nat} (hk : 2000 < k) {h : AHeap} : Gx.Wp (law09_works k (lvl k 60) h) fun z => z.1 = true ∧ Keeps h z.2 := by
 simp only [law09_works]
 refine Gx.Wp.call (yard9 (lvl k 60) 2 (by decide) (by omega)) fun r1 h1 => ?_
 obtain ⟨ss, M, k1, l1⟩ := h1
 have n1 := k1.nx
 have some1 : ∃ a, r1.1.a = some a := by
  rcases M.As.st with ⟨_, e⟩ | ⟨b, g⟩
  ·rw [e] at l1; cases l1
  ·exact ⟨_, by rw [g.s]⟩
 obtain ⟨a1, ha1⟩ := some1
 refine Gx.Wp.ifn (by rw [ha1]; exact fun z => by cases z) (Gx.Wp.new fun H2 k2 n2 g2 => ?_)
 have R2 : Row encS H2 ⟨some ⟨r1.2.next, 0, some 0⟩, 2, 2⟩ d9 := row_lit d9 (e := 9) (r := true) (fz := 0) g2 (by omega)
 refine Gx.Wp.call (PutJob_P (n := 60) (by decide) (by omega) R2 (by decide)) fun r3 h3 => ?_
 obtain ⟨jb, O, ej, k3, J, far, hj⟩ := h3
 rw [ej]
 have n3 := k3.nx
 have jl := J.lj
 have same := ansL_same (qs := q9) (ss := ss) (uu := [(0, 0, ps0 1048576), (0, 0, ps0 1048576)]) (by rw [M.maps, l1]; rfl)
 have RR' : RunR k 300 (putP ⟨#[97]⟩ d9) ss (finP (codesZ [0, 0])) (ansL q9 ss).1 (0 + q9.length) := by
  rw [put9]
  have w := run_all (k := k) (K := fun ys => finP (codesZ (codesY ys))) (most := 298) (qs := q9) (acc := []) (ss := ss) (p' := finP (codesZ [0, 0])) (ss' := (ansL q9 ss).1) (s := 0) (fun q hq => ?_) ?_
  ·rw [show 298 + q9.length = 300 by kernel_rfl] at w
   exact w
  ·simp only [q9, putsL] at hq
   rw [if_pos (by rfl)] at hq
   obtain ⟨i, _, rfl⟩ := List.mem_map.1 hq
   exact ⟨by show 1 < k; omega, by show 1 ≤ _; decide⟩
  ·rw [List.nil_append, same.1, ans9]
   exact RunR.over
 refine Gx.Wp.call (run9 (L := lvl k) (N := 5) (n := 60) (by decide) RR' J ((M.sts (by decide)).keeps (k2.trans k3)) (fun y hy => ?_) (fun a ha => ?_) (by decide) (by show 0 + 2 < k; omega) (by decide) (by decide) (by decide)) fun r4 h4 => ?_
 ·have := M.sset hy
  exact ⟨by omega, fun z => z.elim (fun z => by have := far y z; omega) fun z => by omega⟩
 ·have := M.ls ha
  exact ⟨by omega, fun z => z.elim (fun z => by have := far _ z; omega) fun z => by omega⟩
 obtain ⟨O', v1, o4, J4, _, _, T4, c4⟩ := h4
 have n4 := c4.nx
 refine Gx.Wp.new fun H5 k5 n5 g5 => Gx.Wp.stL (sp := none) g5 rfl rfl rfl (by decide) fun H6 c6 n6 g6 => ?_
 have k6 : Keeps r4.2 H6 := Chg.beh (T := (· = r4.2.next)) k5 c6 fun y hy q => by omega
 refine Gx.Wp.ifp (by rw [v1]; rfl) (Gx.Wp.bnd (Steps_P _ (J4.chg k6 fun _ _ f => f)) (Gx.Wp.ifp (by rfl) (Gx.Wp.bnd (sldI_at g6 rfl) (Gx.Wp.ifp (by rw [o4.2.2.1]; rfl) (Gx.Wp.bnd (sldI_at g6 rfl) (Gx.Wp.of ⟨?_, ?_⟩))))))
 ·dsimp only
  rw [o4.1]; rfl
 ·refine (Chg.beh (k1.trans (k2.trans k3)) c4 fun y hy z => ?_).trans k6
  rcases z with z | z
  ·have := M.sset z; omega
  ·have := far y z; omega
end Gt
namespace Gt
open Go Gx
section
variable {k : Nat} {D : CallF}
end
end Gt
namespace Gt
open Go Gx
section
variable {k N c ib len : Nat} {g : Nat} {x y : Array Value} {O : Nat → Prop} {h : AHeap}
theorem ThenP.frame {L : Nat → CallF} {K : List Ry → Prg} {P : Nat → Prop} {h2 : AHeap} (T : ThenP L N c ib g x y len K O h) (sub : ∀ y, O y → P y) (a : Agr (But O ib) h h2) : ThenP L N c ib g x y len K P h2 :=
 fun n hn P' h' m st q s ag => T n hn P' h' m st q (fun y o => s y (sub y o)) (a.trans (ag.wk fun y o => ⟨sub y o.1, o.2⟩))
theorem askAll_io {n st m : Nat} {q : Rq} {K : List Ry → Prg} {n0 kind : Int} {name : ByteArray} (hN : c + 3 ≤ N) (hn : c + 2 ≤ n) (hk : 1000 < k) (T : ThenP (lvl k) N c ib g x y (askL n0 kind name nob).length K O h) (hO : O ib) (lt : ∀ y, O y → y < m) (hm : m ≤ h.next)
  (hio : h.get ib = some (.cells (ioC q .nilFunc false 0 0 nils nils st) 89 true 0)) :
  Gx.Wp ((fan_ask k (lvl k n) n0 (0, kind, name, ⟨#[]⟩) h).bind fun r1 => (port_IO_All k (lvl k n) (some ⟨ib, 0, none⟩) r1.1 (.func (.func g) x y) r1.2).bind fun r2 => some ((), r2.2)) fun z => Chg (In O m) h z.2 ∧ IoQ (lvl k) N ib (askAll (askL n0 kind name nob) [] K) st (Gr O m z.2) z.2 := by
 have li := lt _ hO
 refine Gx.Wp.call (ask_spec n0 kind name ⟨#[]⟩ (by omega)) fun r1 q1 => ?_
 obtain ⟨k1, q1⟩ := q1
 have n1 := k1.nx
 have hl : (askL n0 kind name nob).length ≤ 255 := askL_len
 have R1 : RowW 4 encQ r1.2 r1.1 (askL n0 kind name nob) := by
  rcases q1 with ⟨hm0, e⟩ | ⟨hm1, b, e, hb1, hb2, hb⟩
  ·rw [e]
   have : askL n0 kind name nob = [] := by unfold askL; rw [if_neg (by rw [hm0]; decide)]
   rw [this]
   exact ⟨rfl, fun i x hx => by simp at hx⟩
  ·have lq : (askL n0 kind name nob).length = n0.toNat := by unfold askL; rw [if_pos hm1]; simp
   have RQ := rowW_blk (cap := n0.toNat) (n := n0.toNat) (sp := some 0) encQ_len hb hb2 (by rw [show askL n0 kind name ⟨#[]⟩ = askL n0 kind name nob from rfl, lq]; exact Nat.le_refl _)
   rw [List.take_of_length_le (by rw [show askL n0 kind name ⟨#[]⟩ = askL n0 kind name nob from rfl, lq]; exact Nat.le_refl _)] at RQ
   rw [e]; exact RQ
 have T2 : ThenP (lvl k) N c ib g x y (askL n0 kind name nob).length K O r1.2 := T.frame (fun y o => o) (chg_agr k1 (fun y o => by have := lt _ o.1; omega) fun y o f => f)
 refine Gx.Wp.call (All_io (k := k) (N := N) (c := c) (n := n) (O := O) (m := r1.2.next) hN hn T2 hO (fun y o => by have := lt y o; omega) (Nat.le_refl _) (k1.got (by omega) hio) R1 (by omega)) fun z hz => Gx.Wp.of ?_
 obtain ⟨cz, iz⟩ := hz
 refine ⟨Chg.beh (Chg.keeps k1) cz fun y hy o => ?_, iz.mono fun y o => ?_⟩
 ·rcases o with o | o
  ·exact .inl o
  ·omega
 ·rcases o with o | o
  ·exact .inl o
  ·exact .inr ⟨by omega, o.2⟩
end
theorem nilI (h : AHeap) : Row encI h (⟨none, 0, 0⟩ : Slc) [] := ⟨rfl, fun i x hx => by simp at hx⟩
theorem nilS' (h : AHeap) : Row encS h (⟨none, 0, 0⟩ : Slc) [] := ⟨rfl, fun i x hx => by simp at hx⟩
section
variable {k N ib len b1 : Nat} {O : Nat → Prop} {h : AHeap}
def codesD (cs : List Int) : Rz := ⟨if firstC [5] cs = 0 ∧ goodC cs = 0 then 5 else firstC [5] cs, goodC cs, [], []⟩
theorem then97 (ob : But O ib b1) (hb : h.get b1 = some (.cells [ptr ib] 34 true 0)) (hl : len ≤ 1048576) (hk : len < k) (hk1 : 1 < k) : ThenC (lvl k) N 1 ib 81 ⟨[]⟩ ⟨[ptr b1]⟩ len (fun cs => finP (codesD cs)) O h := by
 intro n hn P h' m st q sub ag lt hm hP hio cs sl R hcs ow
 obtain ⟨n', rfl⟩ : ∃ n', n = n' + 1 := ⟨n - 1, by omega⟩
 have lb := lt _ (sub _ ob.1)
 have li := lt _ hP
 have hb' := (ag.eq _ ob).trans hb
 refine Does.of (X := fan_DelJob_1_1 k (lvl k n') sl (some ⟨b1, 0, none⟩) h') (by decide) (fun R κ => rfl) ?_
 simp only [fan_DelJob_1_1]
 refine Gx.Wp.new fun H1 k1 n1 g1 => ?_
 have B : Row encI H1 (⟨some ⟨h'.next, 0, some 0⟩, 1, 1⟩ : Slc) [5] := ⟨rfl, fun i x hx => by
  cases i with
  | zero => cases hx; exact ⟨⟨h'.next, 0, some 0⟩, _, _, _, _, rfl, by show h'.next < H1.next; omega, g1, rfl⟩
  | succ i => simp at hx⟩
 refine Gx.Wp.bnd (first_spec (Row.keeps R k1) B (by omega) (by omega) (by decide) (by show 1 < k; omega)) (Gx.Wp.bnd (good_spec (Row.keeps R k1) (by omega) (by omega)) (Gx.Wp.new fun H2 k2 n2 g2 => Gx.Wp.stL (sp := none) g2 rfl rfl rfl (by decide) fun H3 c3 n3 g3 => ?_))
 have k3 : Keeps h' H3 := Chg.beh (T := (· = H1.next)) (k1.trans k2) c3 fun y hy q => by omega
 dsimp only at g3 n3 ⊢
 refine Gx.Wp.jn fun j hj => ?_
 have fin : ∀ (cd : Int) (H : AHeap), Chg (· = H1.next) H3 H → H.get H1.next = some (.cells [.int .i64 cd, .string ⟨#[]⟩, .int .i64 (goodC cs), .slice none 0 0, .slice none 0 0, .slice none 0 0, .slice none 0 0] 42 true 0) → cd = (codesD cs).code →
   Gx.Wp (j (some ⟨b1, 0, none⟩) (some ⟨H1.next, 0, none⟩) H) fun z => Chg (In P m) h' z.2 ∧ IoQ (lvl k) N ib (finP (codesD cs)) st (Gr P m z.2) z.2 := by
  intro cd H cH gH hcd
  have kH : Keeps h' H := Chg.beh (T := (· = H1.next)) k3 cH fun y hy q => by omega
  have nH := kH.nx
  subst hj
  refine Gx.Wp.bnd rfl (Gx.Wp.bnd (ldP_at (kH.got (by omega) hb') rfl) (Gx.Wp.bnd rfl (Gx.Wp.bnd (sldA_at gH rfl) (Gx.Wp.bnd rfl ?_))))
  refine Gx.Wp.call (End_spec (lvl k n') (kH.got (by omega) hio) (by omega)) fun z hz => Gx.Wp.of ?_
  obtain ⟨c1, g1⟩ := hz
  rw [hcd] at g1
  exact ⟨(Chg.keeps kH).trans (c1.wk fun y _ q => .inl (q ▸ hP)), fun _ _ => trivial, .inl ⟨q, nils, nils, g1, nilS' _, nilS' _, (fun a ha => by cases ha), (fun a ha => by cases ha)⟩⟩
 refine Gx.Wp.jn fun j20 hj20 => Gx.Wp.bnd (sldI_at g3 rfl) ?_
 by_cases c0 : firstC [5] cs = 0
 ·refine Gx.Wp.ifp (by simpa using c0) (Gx.Wp.bnd (sldI_at g3 rfl) ?_)
  subst hj20
  by_cases c1 : goodC cs = 0
  ·refine Gx.Wp.ifp (by simpa using c1) (Gx.Wp.bnd rfl (Gx.Wp.st (sp := none) g3 (by show 0 < 7; omega) rfl fun H4 (c4 : Chg (· = H1.next) H3 H4) n4 g4 => fin 5 H4 c4 ?_ ?_))
   ·exact g4
   ·simp [codesD, c0, c1]
  ·refine Gx.Wp.ifn (by simpa using c1) (fin _ H3 (Chg.refl _ _) g3 ?_)
   simp [codesD, c0, c1]
 ·refine Gx.Wp.ifn (by simpa using c0) ?_
  subst hj20
  exact Gx.Wp.ifn (fun z => by cases z) (fin _ H3 (Chg.refl _ _) g3 (by simp [codesD, c0]))
def codesG (ys : List Ry) : Rz := ⟨firstC [] (codesY ys), goodC (codesY ys), [], ys.map (·.2.1)⟩
theorem then90 (ob : But O ib b1) (hb : h.get b1 = some (.cells [ptr ib] 34 true 0)) (hl : len ≤ 1048576) (hk : len < k) : ThenP (lvl k) N 1 ib 78 ⟨[]⟩ ⟨[ptr b1]⟩ len (fun ys => finP (codesG ys)) O h := by
 intro n hn P h' m st q sub ag lt hm hP hio ys xs sl R S hys ow so sm
 obtain ⟨n', rfl⟩ : ∃ n', n = n' + 1 := ⟨n - 1, by omega⟩
 have lb := lt _ (sub _ ob.1)
 have li := lt _ hP
 have hb' := (ag.eq _ ob).trans hb
 have lx : xs.length = len := by rw [S.1]; exact hys
 refine Does.of (X := fan_GetJob_1_1 k (lvl k n') sl (some ⟨b1, 0, none⟩) h') (by decide) (fun R κ => rfl) ?_
 simp only [fan_GetJob_1_1]
 refine Gx.Wp.call (codes_spec (k := k) (D := lvl k n') R (by omega) (by omega)) fun r1 q1 => ?_
 obtain ⟨k1, A1⟩ := q1
 rw [say_codes S] at A1
 have n1 := k1.nx
 have lc : (codesY ys).length = len := by simp [codesY, hys]
 refine Gx.Wp.bnd (first_spec A1.row (nilI _) (by omega) (by omega) (by decide) (by show 0 < k; omega)) (Gx.Wp.bnd (good_spec A1.row (by omega) (by omega)) (Gx.Wp.new fun H2 k2 n2 g2 => Gx.Wp.stL (sp := none) g2 rfl rfl rfl (by decide) fun H3 c3 n3 g3 => ?_))
 have k3 : Keeps h' H3 := Chg.beh (T := (· = r1.2.next)) (k1.trans k2) c3 fun y hy q => by omega
 dsimp only at g3 n3 n2 ⊢
 obtain ⟨rb, erb⟩ : ∃ rb, rb = r1.2.next := ⟨_, rfl⟩
 rw [← erb] at g3 n2 ⊢
 refine Gx.Wp.jn fun j hj => ?_
 unfold fan_GetJob_1_1_l0
 obtain ⟨bot, eb⟩ := iterK_of (fun _ _ _ _ _ _ => none) (fan_GetJob_1_1_l0b k (lvl k n') j) (show xs.length + 1 ≤ k by omega)
 rw [eb, R.len]
 have loop : ∀ (d i : Nat) (H : AHeap) (o : Slc), i + d = xs.length → Keeps h' H → rb < H.next → H.get rb = some (.cells [.int .i64 (firstC [] (codesY ys)), .string ⟨#[]⟩, .int .i64 (goodC (codesY ys)), .slice none 0 0, .slice o.a o.len o.cap, .slice none 0 0, .slice none 0 0] 42 true 0) →
   Acc encS 9 (rb + 1) H o ((ys.take i).map (·.2.1)) →
   Gx.Wp (iterK bot (d + 1) (fan_GetJob_1_1_l0b k (lvl k n') j) (some ⟨b1, 0, none⟩) (some ⟨rb, 0, none⟩) sl (xs.length : Int) (i : Int) H) fun z => Chg (In P m) h' z.2 ∧ IoQ (lvl k) N ib (finP (codesG ys)) st (Gr P m z.2) z.2 := fun d => by
  induction d with
  | zero =>
   intro i H o hd kH lr gH A
   obtain rfl : i = xs.length := by omega
   rw [List.take_of_length_le (by rw [S.1]; exact Nat.le_refl _)] at A
   have nH := kH.nx
   rw [iterK_s]; simp only [fan_GetJob_1_1_l0b]
   subst hj
   refine Gx.Wp.ifn (by simp) (Gx.Wp.bnd rfl (Gx.Wp.bnd (ldP_at (kH.got (by omega) hb') rfl) (Gx.Wp.bnd rfl (Gx.Wp.bnd (sldA_at gH rfl) (Gx.Wp.bnd rfl ?_)))))
   refine Gx.Wp.call (End_spec (lvl k n') (kH.got (by omega) hio) (by omega)) fun z hz => Gx.Wp.of ?_
   obtain ⟨c1, g1⟩ := hz
   refine ⟨(Chg.keeps kH).trans (c1.wk fun y _ q => .inl (q ▸ hP)), fun _ _ => trivial, .inl ⟨q, nils, o, g1, nilS' _, ?_, (fun a ha => by cases ha), fun a ha => ?_⟩⟩
   ·exact (A.chg c1 fun a ha q => by have := (A.lt a ha).2; omega).row
   ·have := A.lt a ha
    have := c1.nx
    exact ⟨.inr ⟨by omega, by dsimp only; omega⟩, by omega⟩
  | succ d ih =>
   intro i H o hd kH lr gH A
   rw [iterK_s]; simp only [fan_GetJob_1_1_l0b]
   have nH := kH.nx
   obtain ⟨x, hx⟩ := isome (l := xs) (i := i) (by omega)
   obtain ⟨y, hy⟩ := isome (l := ys) (i := i) (by rw [← S.1]; omega)
   obtain ⟨s1, s2, s3⟩ := S.2 i x y hx hy
   obtain ⟨p, b1', b2, _, _⟩ := (R.keeps kH).ld encP_len (by decide) hx
   refine Gx.Wp.ifp (by simp; omega) (Gx.Wp.bnd b1' (Gx.Wp.bnd b2 (Gx.Wp.bnd rfl (Gx.Wp.new fun H4 k4 n4 g4 => Gx.Wp.stL (sp := none) g4 rfl rfl rfl (by decide) fun H5 c5 n5 g5 => ?_))))
   dsimp only at g5 n5 ⊢
   have k5 : Keeps H H5 := Chg.beh (T := (· = H.next)) k4 c5 fun y hy q => by omega
   have gr5 := k5.got lr gH
   refine Gx.Wp.bnd rfl (Gx.Wp.bnd (sldL_at gr5 rfl) (Gx.Wp.bnd (ldS_at g5 rfl) (Gx.Wp.newE fun H6 e6 k6 n6 g6 => ?_)))
   obtain ⟨s', h9, a1, a2, A', c9, d9⟩ := Acc.pushK (A.keeps k5) encS_one x.2.1 (bytes := 16) e6 (by simp; omega) (by decide) (by omega)
   refine Gx.Wp.bnd a1 (Gx.Wp.bnd a2 ?_)
   have nr : ¬ ofS o rb := fun ⟨a, ha, q⟩ => by have := (A.lt a ha).2; omega
   have gr9 := c9.got (by omega) nr gr5
   have n9 := c9.nx
   refine Gx.Wp.bnd rfl (Gx.Wp.st (sp := none) gr9 (by show 4 < 7; omega) rfl fun H7 (c7 : Chg (· = rb) h9 H7) n7 g7 => ?_)
   rw [Gx.w1 (by omega)]
   refine ih (i + 1) H7 s' (by omega) (Chg.beh (T := (· = rb)) (Chg.beh (kH.trans k5) c9 fun y hy ⟨a, ha, q⟩ => by have := (A.lt a ha).2; omega) c7 fun y hy q => by omega) (by dsimp only at n7; omega) g7 ?_
   rw [show ys.take (i + 1) = ys.take i ++ [y] by rw [List.take_add_one, hy]; rfl, List.map_append]
   rw [s2] at A'
   exact A'.chg c7 fun a ha q => by have := (A'.lt a ha).2; omega
 refine loop xs.length 0 H3 nils (by omega) k3 (by omega) g3 (Acc.nil _ _ _ _)
end
def getP (n : Int) (name : ByteArray) : Prg := fanP n (askAll (askL n 2 name nob) [] fun ys => finP (codesG ys))
def delP (n : Int) (name : ByteArray) : Prg := fanP n (askAll (askL n 4 name nob) [] fun ys => finP (codesD (codesY ys)))
theorem GetJob_P {k n : Nat} (hn : 8 ≤ n) (hk : 1000 < k) {h : AHeap} {n0 : Int} {name : ByteArray} :
  Gx.Wp (fan_GetJob k (lvl k n) n0 name h) fun z => ∃ jb O, z.1 = some ⟨jb, 0, none⟩ ∧ Keeps h z.2 ∧ JobP (lvl k) 5 jb (getP n0 name) 0 O z.2 ∧ (∀ y, O y → h.next ≤ y) ∧ h.next ≤ jb := by
 simp only [fan_GetJob]
 refine Gx.Wp.new fun H1 k1 n1 g1 => Gx.Wp.new fun H2 k2 n2 g2 => Gx.Wp.bnd (sldI_at (k2.got (by omega) g1) rfl) ?_
 obtain ⟨n', rfl⟩ : ∃ n', n = n' + 2 := ⟨n - 2, by omega⟩
 refine Gx.Wp.call (fanJob (N := 5) (p := askAll (askL n0 2 name nob) [] fun ys => finP (codesG ys)) (by omega) fun hm h' ib kp h1 h2 hio => ?_) fun z hz => ?_
 ·refine Does.of (X := fan_GetJob_1 k (lvl k n') (some ⟨ib, 0, none⟩) (some ⟨h.next, 0, none⟩) (some ⟨H1.next, 0, none⟩) h') (by decide) (fun R κ => rfl) ?_
  simp only [fan_GetJob_1]
  have np := kp.nx
  refine Gx.Wp.new fun H7 k7 n7 g7 => Gx.Wp.bnd (ldP_at g7 rfl) (Gx.Wp.bnd rfl (Gx.Wp.bnd (sldI_at (k7.got (by omega) (kp.got (by omega) (k2.got (by omega) g1))) rfl) (Gx.Wp.bnd rfl (Gx.Wp.bnd (ldS_at (k7.got (by omega) (kp.got (by omega) g2)) rfl) ?_))))
  have hl2 : (askL n0 2 name nob).length ≤ 255 := askL_len
  have P := askAll_io (k := k) (N := 5) (c := 1) (n := n') (ib := ib) (O := fun y => y = ib ∨ y = h'.next) (m := H7.next) (h := H7) (n0 := n0) (kind := 2) (name := name) (K := fun ys => finP (codesG ys)) (by omega) (by omega) hk (then90 (b1 := h'.next) ⟨.inr rfl, by omega⟩ g7 (by omega) (by omega)) (.inl rfl) (fun y q => by omega) (Nat.le_refl _) (k7.got (by omega) hio)
  simp only [fan_Gets]
  refine Gx.Wp.call P fun z hz => Gx.Wp.of ?_
  obtain ⟨c, i⟩ := hz
  have nz := c.nx
  refine ⟨Chg.beh (Chg.keeps k7) c fun y hy q => ?_, i.mono fun y q => ?_⟩
  ·rcases q with (q | q) | q
   ·exact .inl q
   ·exact .inr (by omega)
   ·exact .inr (by omega)
  ·rcases q with (q | q) | q
   ·exact .inl q
   ·exact .inr ⟨by omega, by dsimp only; omega⟩
   ·exact .inr ⟨by omega, q.2⟩
 ·obtain ⟨jb, O, e, kz, J, far, hj⟩ := hz
  exact Gx.Wp.of ⟨jb, O, e, (k1.trans k2).trans kz, J, fun y o => by have := far y o; omega, by omega⟩
theorem DelJob_P {k n : Nat} (hn : 9 ≤ n) (hk : 1000 < k) {h : AHeap} {n0 : Int} {name : ByteArray} :
  Gx.Wp (fan_DelJob k (lvl k n) n0 name h) fun z => ∃ jb O, z.1 = some ⟨jb, 0, none⟩ ∧ Keeps h z.2 ∧ JobP (lvl k) 5 jb (delP n0 name) 0 O z.2 ∧ (∀ y, O y → h.next ≤ y) ∧ h.next ≤ jb := by
 simp only [fan_DelJob]
 refine Gx.Wp.new fun H1 k1 n1 g1 => Gx.Wp.new fun H2 k2 n2 g2 => Gx.Wp.bnd (sldI_at (k2.got (by omega) g1) rfl) ?_
 obtain ⟨n', rfl⟩ : ∃ n', n = n' + 2 := ⟨n - 2, by omega⟩
 refine Gx.Wp.call (fanJob (N := 5) (p := askAll (askL n0 4 name nob) [] fun ys => finP (codesD (codesY ys))) (by omega) fun hm h' ib kp h1 h2 hio => ?_) fun z hz => ?_
 ·refine Does.of (X := fan_DelJob_1 k (lvl k n') (some ⟨ib, 0, none⟩) (some ⟨h.next, 0, none⟩) (some ⟨H1.next, 0, none⟩) h') (by decide) (fun R κ => rfl) ?_
  simp only [fan_DelJob_1]
  have np := kp.nx
  refine Gx.Wp.new fun H7 k7 n7 g7 => Gx.Wp.bnd (ldP_at g7 rfl) (Gx.Wp.bnd rfl (Gx.Wp.bnd (sldI_at (k7.got (by omega) (kp.got (by omega) (k2.got (by omega) g1))) rfl) (Gx.Wp.bnd rfl (Gx.Wp.bnd (ldS_at (k7.got (by omega) (kp.got (by omega) g2)) rfl) ?_))))
  have hl2 : (askL n0 4 name nob).length ≤ 255 := askL_len
  have W : Gx.Wp (fan_Dels k (lvl k n') (some ⟨ib, 0, none⟩) n0 name (.func (.func 81) ⟨[]⟩ ⟨[.pointer (some ⟨h'.next, 0, none⟩)]⟩) H7) fun z => H7.next < z.2.next ∧ Chg (In (fun y => y = ib ∨ y = h'.next ∨ y = H7.next) H7.next) H7 z.2 ∧ IoQ (lvl k) 5 ib (askAll (askL n0 4 name nob) [] fun ys => finP (codesD (codesY ys))) 0 (Gr (fun y => y = ib ∨ y = h'.next ∨ y = H7.next) H7.next z.2) z.2 := by
   simp only [fan_Dels]
   have ec : (Value.func (.func 81) ⟨[]⟩ ⟨[.pointer (some ⟨h'.next, 0, none⟩)]⟩).cells.toList = [.func (.func 81) ⟨[]⟩ ⟨[.pointer (some ⟨h'.next, 0, none⟩)]⟩] := rfl
   rw [ec]
   refine Gx.Wp.new fun H8 k8 n8 g8 => ?_
   have g78 := k8.got (by omega) g7
   have P := askAll_io (k := k) (N := 5) (c := 2) (n := n') (ib := ib) (O := fun y => y = ib ∨ y = h'.next ∨ y = H7.next) (m := H8.next) (h := H8) (n0 := n0) (kind := 4) (name := name) (K := fun ys => finP (codesD (codesY ys))) (by omega) (by omega) hk
    (then126 (K := fun cs => finP (codesD cs)) (O := fun y => y = ib ∨ y = h'.next ∨ y = H7.next) (then97 (b1 := h'.next) ⟨.inr (.inl rfl), by omega⟩ g78 (by omega) (by omega) (by omega)) ⟨.inr (.inr rfl), by omega⟩ g8 (by omega) (by omega)) (.inl rfl) (fun y q => by omega) (Nat.le_refl _) (k8.got (by omega) (k7.got (by omega) hio))
   refine Gx.Wp.mono P fun z hz => ?_
   obtain ⟨c, i⟩ := hz
   have nz := c.nx
   exact ⟨by omega, Chg.beh (Chg.keeps k8) c fun y hy q => q.elim .inl fun q => by omega, i.mono fun y q => q.imp id fun q => ⟨by omega, q.2⟩⟩
  refine Gx.Wp.call W fun z hz => Gx.Wp.of ?_
  obtain ⟨lz, c, i⟩ := hz
  have nz := c.nx
  refine ⟨Chg.beh (Chg.keeps k7) c fun y hy q => ?_, i.mono fun y q => ?_⟩
  ·rcases q with (q | q | q) | q
   ·exact .inl q
   ·exact .inr (by omega)
   ·exact .inr (by omega)
   ·exact .inr (by omega)
  ·rcases q with (q | q | q) | q
   ·exact .inl q
   ·exact .inr ⟨by omega, by dsimp only; omega⟩
   ·exact .inr ⟨by omega, by dsimp only; omega⟩
   ·exact .inr ⟨by omega, q.2⟩
 ·obtain ⟨jb, O, e, kz, J, far, hj⟩ := hz
  exact Gx.Wp.of ⟨jb, O, e, (k1.trans k2).trans kz, J, fun y o => by have := far y o; omega, by omega⟩
end Gt
namespace Gt
open Go Gx
instance memD (n : ByteArray) (ks : List ByteArray) : Decidable (n ∈ ks) := decidable_of_iff (ks.any (fun k => decide (k = n)) = true) (by simp)
def ad (n : ByteArray) (ks : List ByteArray) : List ByteArray := if n ∈ ks then ks else ks ++ [n]
def uni : List ByteArray → List ByteArray → List ByteArray
 | [], ks => ks
 | n :: ns, ks => uni ns (ad n ks)
def namesA : List Ry → List ByteArray → List ByteArray
 | [], ks => ks
 | y :: ys, ks => namesA ys (uni y.2.2 ks)
def nmK (ks : List ByteArray) : List ByteArray := ((ks.map bl).mergeSort leB).map ba
def namesY (ys : List Ry) : List ByteArray := nmK (namesA ys [])
def encN : List ByteArray → Nat → List (Value × Value × Nat)
 | [], _ => []
 | k :: ks, i => (.string k, .bool true, i) :: encN ks (i + 1)
theorem encN_keys : ∀ (ks : List ByteArray) (i : Nat), (encN ks i).map (·.1) = ks.map Value.string
 | [], _ => rfl
 | k :: ks, i => by simp [encN, encN_keys ks (i + 1)]
theorem encN_app : ∀ (ks : List ByteArray) (n : ByteArray) (i : Nat), encN (ks ++ [n]) i = encN ks i ++ [(.string n, .bool true, i + ks.length)]
 | [], _, _ => rfl
 | k :: ks, n, i => by simp only [List.cons_append, encN, encN_app ks n (i + 1), List.length_cons]; rw [show i + 1 + ks.length = i + (ks.length + 1) by omega]
theorem encN_find (n : ByteArray) : ∀ (ks : List ByteArray) (b i : Nat), (n ∉ ks ∧ findE (.string n) (encN ks b) i = some none) ∨ (n ∈ ks ∧ ∃ j, findE (.string n) (encN ks b) i = some (some (i + j, .bool true)) ∧ (encN ks b).modify j (fun e => (.string n, .bool true, e.2.2)) = encN ks b)
 | [], _, _ => .inl ⟨by simp, rfl⟩
 | k :: ks, b, i => by
  by_cases h : k = n
  ·subst h
   have hb : (k == k) = true := by rw [ba_beq]; simp
   exact .inr ⟨by simp, 0, by simp only [encN, findE, keyEq, hb]; rfl, rfl⟩
  ·have hb : (n == k) = false := by rw [ba_beq]; simpa using fun q => h q.symm
   have e : findE (.string n) (encN (k :: ks) b) i = findE (.string n) (encN ks (b + 1)) (i + 1) := by simp only [encN, findE, keyEq, hb]
   rcases encN_find n ks (b + 1) (i + 1) with ⟨h1, h2⟩ | ⟨h1, j, h2, h3⟩
   ·exact .inl ⟨by simp [h1]; exact fun q => h q.symm, e.trans h2⟩
   ·refine .inr ⟨by simp [h1], j + 1, by rw [e, h2, show i + 1 + j = i + (j + 1) by omega], ?_⟩
    simp only [encN, List.modify_succ_cons, h3]
theorem updN {h : AHeap} {r : Nat} {ks : List ByteArray} (hm : h.get r = some (.map (encN ks 0) ks.length)) (n : ByteArray) : ∃ h', updE h r (.string n) (.bool true) = some h' ∧ Chg (· = r) h h' ∧ h'.next = h.next ∧ h'.get r = some (.map (encN (ad n ks) 0) (ad n ks).length) := by
 rcases encN_find n ks 0 0 with ⟨h1, h2⟩ | ⟨h1, j, h2, h3⟩
 ·refine ⟨_, by simp only [updE, hm, h2]; rfl, Chg.set (.inr rfl), rfl, ?_⟩
  rw [sset_get, ad, if_neg h1, encN_app]; simp
 ·refine ⟨_, by simp only [updE, hm, h2]; rfl, Chg.set (.inr rfl), rfl, ?_⟩
  rw [sset_get, ad, if_pos h1, Nat.zero_add, h3]
theorem ad_nodup {n : ByteArray} {ks : List ByteArray} (h : ks.Nodup) : (ad n ks).Nodup := by
 unfold ad
 split
 ·exact h
 ·rename_i q
  exact List.nodup_append.2 ⟨h, by simp, fun a ha b hb => by simp at hb; subst hb; exact fun e => q (e ▸ ha)⟩
theorem uni_nodup : ∀ {ns ks : List ByteArray}, ks.Nodup → (uni ns ks).Nodup
 | [], _, h => h
 | _ :: ns, _, h => uni_nodup (ns := ns) (ad_nodup h)
theorem namesA_nodup : ∀ {ys : List Ry} {ks : List ByteArray}, ks.Nodup → (namesA ys ks).Nodup
 | [], _, h => h
 | _ :: ys, _, h => namesA_nodup (ys := ys) (uni_nodup h)
theorem mem_ad {n x : ByteArray} {ks : List ByteArray} : x ∈ ad n ks ↔ x ∈ ks ∨ x = n := by
 unfold ad
 split
 ·rename_i q; exact ⟨.inl, fun h => h.elim id fun e => e ▸ q⟩
 ·simp
theorem mem_uni {x : ByteArray} : ∀ {ns ks : List ByteArray}, x ∈ uni ns ks ↔ x ∈ ks ∨ x ∈ ns
 | [], _ => by simp [uni]
 | n :: ns, ks => by
  simp only [uni, mem_uni (ns := ns), mem_ad, List.mem_cons]
  exact ⟨fun h => h.elim (fun h => h.imp id .inl) fun h => .inr (.inr h), fun h => h.elim (fun h => .inl (.inl h)) fun h => h.elim (fun h => .inl (.inr h)) .inr⟩
theorem mem_namesA {x : ByteArray} : ∀ {ys : List Ry} {ks : List ByteArray}, x ∈ namesA ys ks ↔ x ∈ ks ∨ ∃ y ∈ ys, x ∈ y.2.2
 | [], _ => by simp [namesA]
 | y :: ys, ks => by
  simp only [namesA, mem_namesA (ys := ys), mem_uni, List.mem_cons]
  constructor
  ·rintro ((h | h) | ⟨z, hz, h⟩)
   ·exact .inl h
   ·exact .inr ⟨y, .inl rfl, h⟩
   ·exact .inr ⟨z, .inr hz, h⟩
  ·rintro (h | ⟨z, rfl | hz, h⟩)
   ·exact .inl (.inl h)
   ·exact .inl (.inr h)
   ·exact .inr ⟨z, hz, h⟩
theorem ad_len (n : ByteArray) (ks : List ByteArray) : (ad n ks).length ≤ ks.length + 1 := by
 unfold ad
 split
 ·omega
 ·simp
theorem uni_len : ∀ (ns ks : List ByteArray), (uni ns ks).length ≤ ks.length + ns.length
 | [], _ => Nat.le_refl _
 | n :: ns, ks => by
  have h1 := uni_len ns (ad n ks)
  have h2 := ad_len n ks
  simp only [uni, List.length_cons]; omega
theorem nmK_len (ks : List ByteArray) : (nmK ks).length = ks.length := by simp [nmK]
theorem uni_snoc (n : ByteArray) : ∀ (ns ks : List ByteArray), uni (ns ++ [n]) ks = ad n (uni ns ks)
 | [], _ => rfl
 | m :: ns, ks => by simp only [List.cons_append, uni, uni_snoc n ns]
theorem namesA_snoc (y : Ry) : ∀ (ys : List Ry) (ks : List ByteArray), namesA (ys ++ [y]) ks = uni y.2.2 (namesA ys ks)
 | [], _ => rfl
 | z :: ys, ks => by simp only [List.cons_append, namesA, namesA_snoc y ys]
theorem births_lt : ∀ (ks : List ByteArray) (i : Nat), ∀ e ∈ encN ks i, i ≤ e.2.2 ∧ e.2.2 < i + ks.length
 | [], _, e, h => by cases h
 | k :: ks, i, e, h => by
  rcases List.mem_cons.1 h with rfl | h
  ·simp
  ·have := births_lt ks (i + 1) e h
   simp only [List.length_cons]; omega
theorem births_nodup : ∀ (ks : List ByteArray) (i : Nat), ((encN ks i).map (·.2.2)).Nodup
 | [], _ => .nil
 | k :: ks, i => by
  simp only [encN, List.map_cons, List.nodup_cons]
  refine ⟨fun h => ?_, births_nodup ks (i + 1)⟩
  obtain ⟨e, he, q⟩ := List.mem_map.1 h
  have := births_lt ks (i + 1) e he
  omega
theorem goodN {ks : List ByteArray} (hn : ks.Nodup) (hs : ∀ s ∈ ks, s.size ≤ 1048576) (hl : ks.length ≤ 8796093022208) : mapGood (encN ks 0) ks.length ks = true := by
 simp only [mapGood, Bool.and_eq_true, decide_eq_true_eq, List.all_eq_true]
 refine ⟨⟨⟨⟨sizes_of fun s h => by have := hs s h; omega, hn⟩, births_nodup ks 0⟩, fun e he => by have := births_lt ks 0 e he; omega⟩, by omega⟩
theorem sortedN {h : AHeap} {bx rb : Nat} {ks : List ByteArray} {t : TypeId} (hb : h.get bx = some (.cells [.map (some rb)] t true 0)) (hm : h.get rb = some (.map (encN ks 0) ks.length)) (hn : ks.Nodup) (hs : ∀ s ∈ ks, s.size ≤ 1048576) (hl : ks.length ≤ 8796093022208) :
  ∃ s h', sortedA 116 9 [.func (.func 116) ⟨[]⟩ ⟨[.pointer (some ⟨bx, 0, none⟩)]⟩] h = some (s, h') ∧ Keeps h h' ∧ Acc encS 9 h.next h' s (nmK ks) := by
 have hbm : boxMap h bx = some (some rb) := by simp only [boxMap, hb]
 have hk : keysL (encN ks 0) = some ks := by simp only [keysL, encN_keys, unstrs_map]
 have hg := goodN hn hs hl
 cases ks with
 | nil =>
  refine ⟨⟨none, 0, 0⟩, h, ?_, Chg.refl _ _, by rw [List.eq_nil_of_length_eq_zero (nmK_len [])]; exact Acc.nil _ _ _ _⟩
  simp only [sortedA, hbm, hm, hk, hg]; rfl
 | cons e es =>
  have hne : nmK (e :: es) ≠ [] := fun q => by have := nmK_len (e :: es); rw [q] at this; simp at this
  refine ⟨⟨some ⟨h.next, 0, some 2⟩, (nmK (e :: es)).length, (nmK (e :: es)).length⟩, h.new (outB encS 9 (nmK (e :: es))), ?_, Keeps.new h _, ⟨.inr ⟨h.next, Grown.of hne⟩, fun a ha => by cases ha; simp⟩⟩
  have hs' : srt (e :: es) = (nmK (e :: es)).map encS := by simp only [srt, nmK, List.map_map]; rfl
  simp only [sortedA, hbm, hm, hk, hg]
  simp only [cond_true, decide_true, Bool.and_self, hs', nmK_len, List.length_cons, outB]
def ThenL (L : Nat → CallF) (N c ib : Nat) (g : Nat) (x y : Array Value) (len : Nat) (K : List ByteArray → List Int → Prg) (O : Nat → Prop) (h : AHeap) : Prop :=
 ∀ n, c ≤ n → ∀ (P : Nat → Prop) (h' : AHeap) (m st : Nat) (q : Rq), (∀ y, O y → P y) → Agr (But O ib) h h' → (∀ y, P y → y < m) → m ≤ h'.next → P ib → h'.get ib = some (.cells (ioC q .nilFunc false 0 0 nils nils st) 89 true 0) →
  ∀ (ns : List ByteArray) (nl : Slc) (cs : List Int) (sl : Slc), Row encS h' nl ns → (∀ a, nl.a = some a → m ≤ a.block ∧ a.block < h'.next) → Row encI h' sl cs → cs.length = len → (∀ a, sl.a = some a → m ≤ a.block ∧ a.block < h'.next) →
  Does (L n) g x y [.slice nl.a nl.len nl.cap, .slice sl.a sl.len sl.cap] h' fun h'' => Chg (In P m) h' h'' ∧ IoQ L N ib (K ns cs) st (Gr P m h'') h''
section
variable {k N c ib b len : Nat} {g : Nat} {x y : Array Value} {K : List ByteArray → List Int → Prg} {O : Nat → Prop} {h : AHeap}
theorem listsJ_l1 {D : CallF} (bot) {h0 : AHeap} {sl : Slc} {ns : List ByteArray} {mb : Nat} (R : Row encS h0 sl ns) (hmb : h0.next ≤ mb) (hl : ns.length ≤ 1048576) {Q : Unit × AHeap → Prop} {J} {a1 : Slc} {y1 : Option Addr} {y2 : Slc} {v1 v2 : Int} {ks0 : List ByteArray}
  (hJ : ∀ H, Keeps h0 H → mb < H.next → H.get mb = some (.map (encN (uni ns ks0) 0) (uni ns ks0).length) → Gx.Wp (J a1 y1 (some mb) y2 v1 v2 H) Q) :
  ∀ (d i : Nat) (H : AHeap), i + d = ns.length → Keeps h0 H → mb < H.next → H.get mb = some (.map (encN (uni (ns.take i) ks0) 0) (uni (ns.take i) ks0).length) → Gx.Wp (iterK bot (d + 1) (fan_Lists_1_l1b k D J) a1 y1 (some mb) y2 v1 v2 sl (ns.length : Int) (i : Int) H) Q := fun d => by
 induction d with
 | zero =>
  intro i H hd kH lm gH
  obtain rfl : i = ns.length := by omega
  rw [List.take_length] at gH
  rw [iterK_s]; simp only [fan_Lists_1_l1b]
  exact Gx.Wp.ifn (by simp) (hJ H kH lm gH)
 | succ d ih =>
  intro i H hd kH lm gH
  rw [iterK_s]; simp only [fan_Lists_1_l1b]
  obtain ⟨x, hx⟩ := isome (l := ns) (i := i) (by omega)
  obtain ⟨p, b1, b2⟩ := (Row.keeps R kH).ldS hx
  obtain ⟨H2, e2, c2, n2, g2⟩ := updN gH x
  refine Gx.Wp.ifp (by simp; omega) (Gx.Wp.bnd b1 (Gx.Wp.bnd b2 (Gx.Wp.bnd rfl (Gx.Wp.bnd e2 ?_))))
  rw [Gx.w1 (by omega)]
  refine ih (i + 1) H2 (by omega) (Chg.beh kH c2 fun y hy q => by omega) (by omega) ?_
  rw [show ns.take (i + 1) = ns.take i ++ [x] by rw [List.take_add_one, hx]; rfl, uni_snoc]
  exact g2
theorem then124 (T : ThenL (lvl k) N c ib g x y len K O h) (ob : But O ib b) (hb : h.get b = some (.cells [.func (.func g) x y] 134 true 0)) (hl : len ≤ 1048576) (hk : len < k) (hk2 : 1048577 < k) : ThenP (lvl k) N (c + 1) ib 102 ⟨[]⟩ ⟨[ptr b]⟩ len (fun ys => K (namesY ys) (codesY ys)) O h := by
 intro n hn P h' m st q sub ag lt hm hP hio ys xs sl R S hys ow so sm
 obtain ⟨n', rfl⟩ : ∃ n', n = n' + 1 := ⟨n - 1, by omega⟩
 have lb := lt _ (sub _ ob.1)
 have li := lt _ hP
 have hb' := (ag.eq _ ob).trans hb
 have lx : xs.length = len := by rw [S.1]; exact hys
 refine Does.of (X := fan_Lists_1 k (lvl k n') sl (some ⟨b, 0, none⟩) h') (by decide) (fun R κ => rfl) ?_
 simp only [fan_Lists_1]
 refine Gx.Wp.new fun H1 k1 n1 g1 => Gx.Wp.jn fun j hj => ?_
 unfold fan_Lists_1_l0
 obtain ⟨bot, eb⟩ := iterK_of (fun _ _ _ _ _ _ _ => none) (fan_Lists_1_l0b k (lvl k n') j) (show xs.length + 1 ≤ k by omega)
 rw [eb, R.len]
 have loop : ∀ (d i : Nat) (H : AHeap), i + d = xs.length → Keeps h' H → h'.next < H.next → H.get h'.next = some (.map (encN (namesA (ys.take i) []) 0) (namesA (ys.take i) []).length) → (namesA (ys.take i) []).length ≤ i * 1048576 →
   Gx.Wp (iterK bot (d + 1) (fan_Lists_1_l0b k (lvl k n') j) sl (some ⟨b, 0, none⟩) (some h'.next) sl (xs.length : Int) (i : Int) H) fun z => Chg (In P m) h' z.2 ∧ IoQ (lvl k) N ib (K (namesY ys) (codesY ys)) st (Gr P m z.2) z.2 := fun d => by
  induction d with
  | zero =>
   intro i H hd kH lm gH lk
   obtain rfl : i = xs.length := by omega
   rw [List.take_of_length_le (by rw [S.1]; exact Nat.le_refl _)] at gH lk
   have nH := kH.nx
   rw [iterK_s]; simp only [fan_Lists_1_l0b]
   subst hj
   refine Gx.Wp.ifn (by simp) ?_
   obtain ⟨H2, e2⟩ : ∃ H2, H2 = H.new (.cells [.map (some h'.next)] 146 true 0) := ⟨_, rfl⟩
   have kk : maps_Keys_map_string_bool_string_bool k (lvl k n') (some h'.next) H = some (.func (.func 116) ⟨[]⟩ ⟨[.pointer (some ⟨H.next, 0, none⟩)]⟩, H2) := by rw [e2]; rfl
   have k2 : Keeps H H2 := e2 ▸ Keeps.new H _
   have n2 : H2.next = H.next + 1 := by rw [e2]; rfl
   have g2 : H2.get H.next = some (.cells [.map (some h'.next)] 146 true 0) := by rw [e2]; simp
   have hbn : ∀ s ∈ namesA ys [], s.size ≤ 1048576 := fun s hs => by
    rcases mem_namesA.1 hs with hs | ⟨y, hy, hs⟩
    ·cases hs
    ·exact (sm y hy).s s hs
   obtain ⟨ns, H3, e3, k3, A3⟩ := sortedN g2 (k2.got lm gH) (namesA_nodup .nil) hbn (by omega)
   have n3 := k3.nx
   have kH2 : Keeps h' H2 := kH.trans k2
   have kH3 : Keeps h' H3 := kH2.trans k3
   refine Gx.Wp.bnd kk (Gx.Wp.bnd e3 (Gx.Wp.call (codes_spec (k := k) (D := lvl k n') (R.keeps kH3) (by omega) (by omega)) fun r4 q4 => ?_))
   obtain ⟨k4, A4⟩ := q4
   rw [say_codes S] at A4
   have n4 := k4.nx
   dsimp only at n4
   have kH4 : Keeps h' r4.2 := kH3.trans k4
   have hb4 := kH4.got (by omega) hb'
   refine Gx.Wp.bnd rfl (Gx.Wp.bnd (ldV_at hb4 rfl) (Gx.Wp.gp ?_ ?_))
   ·intro H5 hH
    simp at hH
    rcases hH with rfl | rfl | rfl
    ·exact bnd rfl (bnd (ldV_at (kH3.got (by omega) hb') rfl) rfl)
    ·exact bnd rfl (bnd (ldV_at (kH2.got (by omega) hb') rfl) rfl)
    ·exact bnd rfl (bnd (ldV_at (kH.got (by omega) hb') rfl) rfl)
   ·have d := T n' (by omega) P r4.2 m st q sub (ag.trans (chg_agr kH4 (fun y o => by have := lt _ (sub _ o.1); omega) fun y o f => f)) lt (by omega) hP (kH4.got (by omega) hio) (namesY ys) ns (codesY ys) r4.1 (Row.keeps A3.row k4) (fun a ha => by have := A3.lt a ha; omega) A4.row (by simp [codesY, hys]) (fun a ha => by have := A4.lt a ha; dsimp only at this; omega)
    refine Does.wp d (by kernel_rfl) fun h5 q5 => Gx.Wp.of ⟨(Chg.keeps kH4).trans q5.1, q5.2⟩
  | succ d ih =>
   intro i H hd kH lm gH lk
   rw [iterK_s]; simp only [fan_Lists_1_l0b]
   have nH := kH.nx
   obtain ⟨x, hx⟩ := isome (l := xs) (i := i) (by omega)
   obtain ⟨y, hy⟩ := isome (l := ys) (i := i) (by rw [← S.1]; omega)
   obtain ⟨s1, s2, s3⟩ := S.2 i x y hx hy
   have sy := (sm y (mem_of hy)).n
   obtain ⟨p, b1', b2, _, _⟩ := (R.keeps kH).ld encP_len (by decide) hx
   refine Gx.Wp.ifp (by simp; omega) (Gx.Wp.jn fun J hJ => Gx.Wp.bnd b1' (Gx.Wp.bnd b2 (Gx.Wp.bnd rfl (Gx.Wp.new fun H4 k4 n4 g4 => Gx.Wp.stL (sp := none) g4 rfl rfl rfl (by decide) fun H5 c5 n5 g5 => ?_))))
   dsimp only at g5 n5 ⊢
   have k5 : Keeps H H5 := Chg.beh (T := (· = H.next)) k4 c5 fun y hy q => by omega
   have kH5 := kH.trans k5
   refine Gx.Wp.bnd (sldL_at g5 rfl) ?_
   unfold fan_Lists_1_l1
   obtain ⟨bot', eb'⟩ := iterK_of (fun _ _ _ _ _ _ _ _ _ _ => none) (fan_Lists_1_l1b k (lvl k n') J) (show y.2.2.length + 1 ≤ k by omega)
   rw [eb', show ((⟨x.2.2.a, x.2.2.len, x.2.2.cap⟩ : Slc).len : Int) = (y.2.2.length : Int) by rw [s3.1]]
   refine listsJ_l1 bot' (h0 := h') (mb := h'.next) (sl := ⟨x.2.2.a, x.2.2.len, x.2.2.cap⟩) s3 (Nat.le_refl _) sy (ks0 := namesA (ys.take i) []) (fun H6 k6 l6 g6 => ?_) y.2.2.length 0 H5 (by omega) kH5 (by omega) (k5.got (by omega) gH)
   subst hJ
   dsimp only
   rw [Gx.w1 (by omega)]
   have et : ys.take (i + 1) = ys.take i ++ [y] := by rw [List.take_add_one, hy]; rfl
   refine ih (i + 1) H6 (by omega) k6 l6 ?_ ?_
   ·rw [et, namesA_snoc]; exact g6
   ·rw [et, namesA_snoc]
    have := uni_len y.2.2 (namesA (ys.take i) [])
    omega
 exact loop xs.length 0 H1 (by omega) k1 (by omega) g1 (by simp [namesA])
def namesZ (ns : List ByteArray) (cs : List Int) : Rz := ⟨firstC [] cs, goodC cs, ns, []⟩
theorem then94 {b1 : Nat} (ob : But O ib b1) (hb : h.get b1 = some (.cells [ptr ib] 34 true 0)) (hl : len ≤ 1048576) (hk : len < k) : ThenL (lvl k) N 1 ib 84 ⟨[]⟩ ⟨[ptr b1]⟩ len (fun ns cs => finP (namesZ ns cs)) O h := by
 intro n hn P h' m st q sub ag lt hm hP hio ns nl cs sl RN own R hcs ow
 obtain ⟨n', rfl⟩ : ∃ n', n = n' + 1 := ⟨n - 1, by omega⟩
 have lb := lt _ (sub _ ob.1)
 have li := lt _ hP
 have hb' := (ag.eq _ ob).trans hb
 refine Does.of (X := fan_ListJob_1_1 k (lvl k n') nl sl (some ⟨b1, 0, none⟩) h') (by decide) (fun R κ => rfl) ?_
 simp only [fan_ListJob_1_1]
 refine Gx.Wp.bnd (first_spec R (nilI _) (by omega) (by omega) (by decide) (by show 0 < k; omega)) (Gx.Wp.bnd (good_spec R (by omega) (by omega)) (Gx.Wp.bnd rfl (Gx.Wp.bnd (ldP_at hb' rfl) (Gx.Wp.gp ?_ ?_))))
 ·intro H hH
  simp at hH
  rcases hH with rfl | rfl <;> exact bnd rfl (bnd (ldP_at hb' rfl) rfl)
 ·refine Gx.Wp.call (End_spec (lvl k n') hio (by dsimp only; omega)) fun z hz => Gx.Wp.of ?_
  obtain ⟨c1, g1⟩ := hz
  have n1 := c1.nx
  dsimp only at n1
  refine ⟨c1.wk fun y _ q => .inl (q ▸ hP), fun _ _ => trivial, .inl ⟨q, nl, nils, g1, Row.chg RN c1 fun a ha q => by have := own a ha; omega, nilS' _, fun a ha => ?_, (fun a ha => by cases ha)⟩⟩
  have := own a ha
  exact ⟨.inr ⟨by omega, by dsimp only; omega⟩, by omega⟩
end
def lstP (n : Int) (begin : ByteArray) : Prg := fanP n (askAll (askL n 3 begin nob) [] fun ys => finP (namesZ (namesY ys) (codesY ys)))
theorem ListJob_P {k n : Nat} (hn : 9 ≤ n) (hk : 1048577 < k) {h : AHeap} {n0 : Int} {name : ByteArray} :
  Gx.Wp (fan_ListJob k (lvl k n) n0 name h) fun z => ∃ jb O, z.1 = some ⟨jb, 0, none⟩ ∧ Keeps h z.2 ∧ JobP (lvl k) 5 jb (lstP n0 name) 0 O z.2 ∧ (∀ y, O y → h.next ≤ y) ∧ h.next ≤ jb := by
 simp only [fan_ListJob]
 refine Gx.Wp.new fun H1 k1 n1 g1 => Gx.Wp.new fun H2 k2 n2 g2 => Gx.Wp.bnd (sldI_at (k2.got (by omega) g1) rfl) ?_
 obtain ⟨n', rfl⟩ : ∃ n', n = n' + 2 := ⟨n - 2, by omega⟩
 refine Gx.Wp.call (fanJob (N := 5) (p := askAll (askL n0 3 name nob) [] fun ys => finP (namesZ (namesY ys) (codesY ys))) (by omega) fun hm h' ib kp h1 h2 hio => ?_) fun z hz => ?_
 ·refine Does.of (X := fan_ListJob_1 k (lvl k n') (some ⟨ib, 0, none⟩) (some ⟨h.next, 0, none⟩) (some ⟨H1.next, 0, none⟩) h') (by decide) (fun R κ => rfl) ?_
  simp only [fan_ListJob_1]
  have np := kp.nx
  refine Gx.Wp.new fun H7 k7 n7 g7 => Gx.Wp.bnd (ldP_at g7 rfl) (Gx.Wp.bnd rfl (Gx.Wp.bnd (sldI_at (k7.got (by omega) (kp.got (by omega) (k2.got (by omega) g1))) rfl) (Gx.Wp.bnd rfl (Gx.Wp.bnd (ldS_at (k7.got (by omega) (kp.got (by omega) g2)) rfl) ?_))))
  have hl2 : (askL n0 3 name nob).length ≤ 255 := askL_len
  have W : Gx.Wp (fan_Lists k (lvl k n') (some ⟨ib, 0, none⟩) n0 name (.func (.func 84) ⟨[]⟩ ⟨[.pointer (some ⟨h'.next, 0, none⟩)]⟩) H7) fun z => H7.next < z.2.next ∧ Chg (In (fun y => y = ib ∨ y = h'.next ∨ y = H7.next) H7.next) H7 z.2 ∧ IoQ (lvl k) 5 ib (askAll (askL n0 3 name nob) [] fun ys => finP (namesZ (namesY ys) (codesY ys))) 0 (Gr (fun y => y = ib ∨ y = h'.next ∨ y = H7.next) H7.next z.2) z.2 := by
   simp only [fan_Lists]
   have ec : (Value.func (.func 84) ⟨[]⟩ ⟨[.pointer (some ⟨h'.next, 0, none⟩)]⟩).cells.toList = [.func (.func 84) ⟨[]⟩ ⟨[.pointer (some ⟨h'.next, 0, none⟩)]⟩] := rfl
   rw [ec]
   refine Gx.Wp.new fun H8 k8 n8 g8 => ?_
   have g78 := k8.got (by omega) g7
   have P := askAll_io (k := k) (N := 5) (c := 2) (n := n') (ib := ib) (O := fun y => y = ib ∨ y = h'.next ∨ y = H7.next) (m := H8.next) (h := H8) (n0 := n0) (kind := 3) (name := name) (K := fun ys => finP (namesZ (namesY ys) (codesY ys))) (by omega) (by omega) (by omega)
    (then124 (K := fun ns cs => finP (namesZ ns cs)) (O := fun y => y = ib ∨ y = h'.next ∨ y = H7.next) (then94 (b1 := h'.next) ⟨.inr (.inl rfl), by omega⟩ g78 (by omega) (by omega)) ⟨.inr (.inr rfl), by omega⟩ g8 (by omega) (by omega) hk) (.inl rfl) (fun y q => by omega) (Nat.le_refl _) (k8.got (by omega) (k7.got (by omega) hio))
   refine Gx.Wp.mono P fun z hz => ?_
   obtain ⟨c, i⟩ := hz
   have nz := c.nx
   exact ⟨by omega, Chg.beh (Chg.keeps k8) c fun y hy q => q.elim .inl fun q => by omega, i.mono fun y q => q.imp id fun q => ⟨by omega, q.2⟩⟩
  refine Gx.Wp.call W fun z hz => Gx.Wp.of ?_
  obtain ⟨lz, c, i⟩ := hz
  have nz := c.nx
  refine ⟨Chg.beh (Chg.keeps k7) c fun y hy q => ?_, i.mono fun y q => ?_⟩
  ·rcases q with (q | q | q) | q
   ·exact .inl q
   ·exact .inr (by omega)
   ·exact .inr (by omega)
   ·exact .inr (by omega)
  ·rcases q with (q | q | q) | q
   ·exact .inl q
   ·exact .inr ⟨by omega, by dsimp only; omega⟩
   ·exact .inr ⟨by omega, by dsimp only; omega⟩
   ·exact .inr ⟨by omega, q.2⟩
 ·obtain ⟨jb, O, e, kz, J, far, hj⟩ := hz
  exact Gx.Wp.of ⟨jb, O, e, (k1.trans k2).trans kz, J, fun y o => by have := far y o; omega, by omega⟩
end Gt
namespace Gt
open Go Gx
def insN (n : ByteArray) : List ByteArray → List ByteArray
 | [] => [n]
 | o :: l => if bl o < bl n then o :: insN n l else if o = n then o :: l else n :: o :: l
def insAll : List ByteArray → List ByteArray → List ByteArray
 | [], o => o
 | n :: ns, o => insAll ns (insN n o)
def unionA : List Ry → List ByteArray → List ByteArray
 | [], o => o
 | y :: ys, o => unionA ys (insAll y.2.2 o)
def SrtN (L : List ByteArray) : Prop := L.Pairwise fun a b => bl a < bl b
theorem mem_insN {n x : ByteArray} : ∀ {L : List ByteArray}, x ∈ insN n L ↔ x ∈ L ∨ x = n
 | [] => by simp [insN]
 | o :: l => by
  simp only [insN]
  split
  ·rw [List.mem_cons, mem_insN (L := l), List.mem_cons]
   exact ⟨fun h => h.elim (fun h => .inl (.inl h)) fun h => h.imp .inr id, fun h => h.elim (fun h => h.imp id .inl) fun h => .inr (.inr h)⟩
  ·split
   ·rename_i q
    exact ⟨.inl, fun h => h.elim id fun h => by rw [h, ← q]; simp⟩
   ·rw [List.mem_cons (l := o :: l)]
    exact ⟨fun h => h.symm, fun h => h.symm⟩
theorem srt_insN {n : ByteArray} : ∀ {L : List ByteArray}, SrtN L → SrtN (insN n L)
 | [], _ => List.pairwise_cons.2 ⟨by simp, .nil⟩
 | o :: l, h => by
  obtain ⟨h1, h2⟩ := List.pairwise_cons.1 h
  simp only [insN]
  split
  ·rename_i c
   refine List.pairwise_cons.2 ⟨fun x hx => ?_, srt_insN h2⟩
   rcases mem_insN.1 hx with hx | rfl
   ·exact h1 x hx
   ·exact c
  ·rename_i c
   split
   ·exact h
   ·rename_i q
    have lt : bl n < bl o := by
     refine List.not_le.1 fun z => ?_
     exact q (congrArg ba (List.le_antisymm z (List.not_lt.1 c)))
    refine List.pairwise_cons.2 ⟨fun x hx => ?_, h⟩
    rcases List.mem_cons.1 hx with rfl | hx
    ·exact lt
    ·exact List.lt_trans lt (h1 x hx)
theorem srt_insAll : ∀ {ns L : List ByteArray}, SrtN L → SrtN (insAll ns L)
 | [], _, h => h
 | _ :: ns, _, h => srt_insAll (ns := ns) (srt_insN h)
theorem srt_union : ∀ {ys : List Ry} {L : List ByteArray}, SrtN L → SrtN (unionA ys L)
 | [], _, h => h
 | _ :: ys, _, h => srt_union (ys := ys) (srt_insAll h)
theorem mem_insAll {x : ByteArray} : ∀ {ns L : List ByteArray}, x ∈ insAll ns L ↔ x ∈ L ∨ x ∈ ns
 | [], _ => by simp [insAll]
 | n :: ns, L => by
  simp only [insAll, mem_insAll (ns := ns), mem_insN, List.mem_cons]
  exact ⟨fun h => h.elim (fun h => h.imp id .inl) fun h => .inr (.inr h), fun h => h.elim (fun h => .inl (.inl h)) fun h => h.elim (fun h => .inl (.inr h)) .inr⟩
theorem mem_union {x : ByteArray} : ∀ {ys : List Ry} {L : List ByteArray}, x ∈ unionA ys L ↔ x ∈ L ∨ ∃ y ∈ ys, x ∈ y.2.2
 | [], _ => by simp [unionA]
 | y :: ys, L => by
  simp only [unionA, mem_union (ys := ys), mem_insAll, List.mem_cons]
  constructor
  ·rintro ((h | h) | ⟨z, hz, h⟩)
   ·exact .inl h
   ·exact .inr ⟨y, .inl rfl, h⟩
   ·exact .inr ⟨z, .inr hz, h⟩
  ·rintro (h | ⟨z, rfl | hz, h⟩)
   ·exact .inl (.inl h)
   ·exact .inl (.inr h)
   ·exact .inr ⟨z, hz, h⟩
theorem insN_len (n : ByteArray) : ∀ L : List ByteArray, (insN n L).length ≤ L.length + 1
 | [] => by simp [insN]
 | o :: l => by
  have := insN_len n l
  simp only [insN]
  split
  ·simp only [List.length_cons]; omega
  ·split <;> simp
theorem insAll_len : ∀ ns L : List ByteArray, (insAll ns L).length ≤ L.length + ns.length
 | [], _ => Nat.le_refl _
 | n :: ns, L => by
  have h1 := insAll_len ns (insN n L)
  have h2 := insN_len n L
  simp only [insAll, List.length_cons]; omega
theorem insAll_snoc (n : ByteArray) : ∀ (ns L : List ByteArray), insAll (ns ++ [n]) L = insN n (insAll ns L)
 | [], _ => rfl
 | m :: ns, L => by simp only [List.cons_append, insAll, insAll_snoc n ns]
theorem union_snoc (y : Ry) : ∀ (ys : List Ry) (L : List ByteArray), unionA (ys ++ [y]) L = insAll y.2.2 (unionA ys L)
 | [], _ => rfl
 | z :: ys, L => by simp only [List.cons_append, unionA, union_snoc y ys]
theorem nmK_srt {ks : List ByteArray} (h : ks.Nodup) : SrtN (nmK ks) := by
 have e : (ks.map fun k => ((k, nob, 0) : En)).map (·.1) = ks := by rw [List.map_map]; exact List.map_id _
 have := nm_sorted (es := ks.map fun k => ((k, nob, 0) : En)) (by rw [e]; exact h)
 unfold nm at this
 rw [e] at this
 exact this
theorem nmK_mem {x : ByteArray} {ks : List ByteArray} : x ∈ nmK ks ↔ x ∈ ks := by
 simp only [nmK, List.mem_map, List.mem_mergeSort]
 exact ⟨fun ⟨l, ⟨m, hm, e⟩, e2⟩ => by subst e; subst e2; exact hm, fun h => ⟨bl x, ⟨x, h, rfl⟩, rfl⟩⟩
theorem union_eq (ys : List Ry) : unionA ys [] = namesY ys := by
 have s1 : SrtN (unionA ys []) := srt_union .nil
 have s2 : SrtN (namesY ys) := nmK_srt (namesA_nodup .nil)
 have nd : ∀ {L : List ByteArray}, SrtN L → L.Nodup := fun h => List.Pairwise.imp (fun {a b} h (q : a = b) => by rw [q] at h; exact bl_irr h) h
 refine List.Perm.eq_of_pairwise (le := fun a b => bl a < bl b) (fun a b _ _ h1 h2 => absurd (List.lt_trans h1 h2) bl_irr) s1 s2 ((List.perm_ext_iff_of_nodup (nd s1) (nd s2)).2 fun x => ?_)
 unfold namesY
 rw [nmK_mem, mem_union, mem_namesA]
def ui (n : ByteArray) : List ByteArray → Nat
 | [] => 0
 | o :: l => if bl o < bl n then ui n l + 1 else 0
theorem ui_le (n : ByteArray) : ∀ L : List ByteArray, ui n L ≤ L.length
 | [] => Nat.le_refl _
 | o :: l => by
  have := ui_le n l
  simp only [ui]
  split
  ·simp only [List.length_cons]; omega
  ·exact Nat.zero_le _
theorem ui_hit {n : ByteArray} : ∀ {L : List ByteArray}, L[ui n L]? = some n → insN n L = L
 | [], h => by simp [ui] at h
 | o :: l, h => by
  simp only [ui] at h
  simp only [insN]
  split
  ·rename_i c
   rw [if_pos c] at h
   rw [ui_hit (L := l) (by simpa using h)]
  ·rename_i c
   rw [if_neg c] at h
   have : o = n := by simpa using h
   rw [if_pos this]
theorem ui_no {n : ByteArray} : ∀ {L : List ByteArray}, L[ui n L]? ≠ some n → insN n L = L.take (ui n L) ++ n :: L.drop (ui n L)
 | [], _ => rfl
 | o :: l, h => by
  simp only [ui] at h ⊢
  simp only [insN]
  by_cases c : bl o < bl n
  ·rw [if_pos c] at h ⊢
   rw [if_pos c, ui_no (L := l) (by simpa using h)]; rfl
  ·rw [if_neg c] at h ⊢
   rw [if_neg c, if_neg (by simpa using h)]; rfl
end Gt
namespace Gt
open Go Gx
variable {F : Nat → Prop}
theorem pushE {α : Type} {w : Nat} {enc : α → List Value} {e : TypeId} {base bytes : Nat} {h H : AHeap} {s : Slc} {xs : List α} (A : AccW w enc e base h s xs) (hw : ∀ x, (enc x).length = w) (ho : ∀ x, allOne (enc x) = true) (x : α) (eH : H = h.new (.cells (enc x) e true 0)) (h1 : 1 ≤ bytes) (hs : 2 * (xs.length + 1) * bytes ≤ 281474976710656) (hbase : base ≤ h.next) :
  ∃ s' h', rdS w (⟨some ⟨h.next, 0, some 0⟩, 1, 1⟩ : Slc) H = some (enc x) ∧ appendA w bytes e H s (enc x) 1 = some (s', h') ∧ AccW w enc e base h' s' (xs ++ [x]) ∧ Chg (ofS s) h h' ∧ ∀ a, s'.a = some a → h.next ≤ a.block := by
 subst eH
 obtain ⟨s', h', a, A', c, d⟩ := A.push hw ho x h1 hs hbase
 exact ⟨s', h', rdS_oneW hw x e, a, A', c, d⟩
def eachN (kind : Int) (name data : ByteArray) (n : Nat) : List Rq := (List.range n).map fun i : Nat => ((i : Int), kind, name, data)
theorem eachN_s (kind : Int) (name data : ByteArray) (n : Nat) : eachN kind name data (n + 1) = eachN kind name data n ++ [((n : Int), kind, name, data)] := by
 simp [eachN, List.range_succ]
theorem eachN_len (kind : Int) (name data : ByteArray) (n : Nat) : (eachN kind name data n).length = n := by simp [eachN]
theorem eachN_ask {kind : Int} {name : ByteArray} {n : Int} (hm : may n = true) : askL n kind name nob = eachN kind name nob n.toNat := by
 unfold askL
 rw [if_pos hm]; rfl
theorem TSet_ansRL (y : Nat) : ∀ (qs : List Rq) (ts : List Tb), TSet (ansRL qs ts).1 y ↔ TSet ts y
 | [], _ => Iff.rfl
 | q :: qs, ts => (TSet_ansRL y qs _).trans (TSet_ans ts q y)
theorem TSet_lt {h : AHeap} {sl : Slc} {m : Nat} {ts : List Tb} (T : Rts F h sl m ts) {y : Nat} (z : TSet ts y) : y < h.next := by
 obtain ⟨t, ht, rfl⟩ := z
 obtain ⟨i, hi⟩ := List.getElem?_of_mem ht
 exact ((T.st i t hi).1).lt
theorem AccW.ty {α : Type} {w : Nat} {enc : α → List Value} {e : TypeId} {base : Nat} {h : AHeap} {s : Slc} {xs : List α} (A : AccW w enc e base h s xs) {y : Nat} (z : ofS s y) : ∃ c rw fz, h.get y = some (.cells c e rw fz) := by
 obtain ⟨a, ha, rfl⟩ := z
 rcases A.st with ⟨rfl, _⟩ | ⟨b, rfl, h2, _⟩
 ·cases ha
 ·cases ha; exact ⟨_, _, _, h2⟩
theorem Acc.ty {α : Type} {enc : α → Value} {e : TypeId} {base : Nat} {h : AHeap} {s : Slc} {xs : List α} (A : Gx.Acc enc e base h s xs) {y : Nat} (z : ofS s y) : ∃ c rw fz, h.get y = some (.cells c e rw fz) := by
 obtain ⟨a, ha, rfl⟩ := z
 obtain ⟨c, g⟩ := acc_blk A ha
 exact ⟨c, _, _, g⟩
theorem Rts.of {S : Nat → Prop} {h h' : AHeap} {sl : Slc} {m : Nat} {ts : List Tb} (T : Rts F h sl m ts) (c : Chg S h h') (ge : ∀ y, S y → ¬ TSet ts y ∧ (∃ c e rw fz, h.get y = some (.cells c e rw fz) ∧ e ≠ 96) ∧ ∀ a, sl.a = some a → y ≠ a.block) : Rts F h' sl m ts :=
 T.apartE c (fun y hy => ⟨(ge y hy).1, (ge y hy).2.1⟩) fun a ha q => (ge _ q).2.2 a ha rfl
section
variable {k : Nat} {D : CallF} {h : AHeap} {sl : Slc} {m : Nat} {ss : List Sb} {ts : List Tb}
structure AllQ (h0 : AHeap) (H : AHeap) (o : Slc) (ys : List Ry) (xs : List Rp) : Prop where
 ac : AccW 3 encP 59 h0.next H o xs
 say : Say H xs ys
 ad : ∀ (i : Nat) (x : Rp), xs[i]? = some x → ∀ a, x.2.2.a = some a → h0.next < a.block ∧ a.block < H.next ∧ ¬ ofS o a.block
theorem rAll_spec (T : Rts F h sl m ts) (B : Bth ss ts) (sla : ∀ a, sl.a = some a → a.block < h.next) (n : Nat) (hn : n ≤ 255) (kind : Int) (name data : ByteArray) (st : Int) (hm : m + n ≤ 50000) (hk : 100000 < k) :
  Gx.Wp (ref09_All k D sl (n : Int) (st, kind, name, data) h) fun z => ∃ xs, Chg (TSet ts) h z.2 ∧ Rts F z.2 sl (m + n) (ansRL (eachN kind name data n) ts).1 ∧ AllQ h z.2 z.1 (ansRL (eachN kind name data n) ts).2 xs := by
 simp only [ref09_All]
 refine Gx.Wp.new fun H1 k1 n1 g1 => Gx.Wp.jn fun j hj => ?_
 unfold ref09_All_l0
 obtain ⟨bot, eb⟩ := iterK_of (fun _ _ _ _ _ _ => none) (ref09_All_l0b k D j) (show n + 1 ≤ k by omega)
 rw [eb]
 have loop : ∀ (d i : Nat) (H : AHeap) (o : Slc) (xs : List Rp) (v : Int), i + d = n → Chg (TSet ts) h H → h.next < H.next → H.get h.next = some (.cells [.int .i64 v, .int .i64 kind, .string name, .string data] 51 true 0) → Rts F H sl (m + i) (ansRL (eachN kind name data i) ts).1 → AllQ h H o (ansRL (eachN kind name data i) ts).2 xs → (∀ a, o.a = some a → a.block ≠ h.next) →
   Gx.Wp (iterK bot (d + 1) (ref09_All_l0b k D j) sl (n : Int) (some ⟨h.next, 0, none⟩) o (i : Int) H) fun z => ∃ xs, Chg (TSet ts) h z.2 ∧ Rts F z.2 sl (m + n) (ansRL (eachN kind name data n) ts).1 ∧ AllQ h z.2 z.1 (ansRL (eachN kind name data n) ts).2 xs := fun d => by
  induction d with
  | zero =>
   intro i H o xs v hd c lt g TH Q _
   obtain rfl : i = n := by omega
   rw [iterK_s]; simp only [ref09_All_l0b]
   subst hj
   exact Gx.Wp.ifn (by simp) (Gx.Wp.of ⟨xs, c, TH, Q⟩)
  | succ d ih =>
   intro i H o xs v hd c lt g TH Q no
   rw [iterK_s]; simp only [ref09_All_l0b]
   have ltT : ∀ y, TSet (ansRL (eachN kind name data i) ts).1 y → y < h.next := fun y z => TSet_lt T ((TSet_ansRL y _ _).1 z)
   refine Gx.Wp.ifp (by simp; omega) (Gx.Wp.bnd rfl (Gx.Wp.st (sp := none) g (by show 0 + 0 < 4; omega) rfl fun H2 (c2 : Chg (· = h.next) H H2) n2 g2 => Gx.Wp.bnd rfl (Gx.Wp.bnd (sldA_at g2 rfl) (Gx.Wp.bnd rfl ?_))))
   have g2 : H2.get h.next = some (.cells [.int .i64 (i : Int), .int .i64 kind, .string name, .string data] 51 true 0) := g2
   have T2 : Rts F H2 sl (m + i) (ansRL (eachN kind name data i) ts).1 := TH.of c2 fun y hy => by
    subst hy
    exact ⟨fun z => by have := ltT _ z; omega, ⟨_, _, _, _, g, by decide⟩, fun a ha q => by have := sla a ha; omega⟩
   have B2 := (both_all (qs := eachN kind name data i) B).2
   refine Gx.Wp.call (RAnswer_spec D T2 ((i : Int), kind, name, data) (by omega) (by omega) (by omega) (B2.tot T2 (by omega))) fun r3 q3 => ?_
   obtain ⟨c3, T3, e1, e2, A3⟩ := q3
   have n3 := c3.nx
   have es : (ansRL (eachN kind name data (i + 1)) ts) = ((ansR (ansRL (eachN kind name data i) ts).1 ((i : Int), kind, name, data)).1, (ansRL (eachN kind name data i) ts).2 ++ [(ansR (ansRL (eachN kind name data i) ts).1 ((i : Int), kind, name, data)).2]) := by
    rw [eachN_s, ansRL_snoc]
   refine Gx.Wp.newE fun H4 e4 k4 n4 g4 => ?_
   have c3' : Chg (TSet ts) H2 r3.2 := c3.wk fun y _ z => (TSet_ansRL y _ _).1 z
   have ltT0 : ∀ y, TSet ts y → y < h.next := fun y z => TSet_lt T z
   have apo : ∀ a, o.a = some a → ¬ TSet ts a.block := fun a ha z => by have := (Q.ac.lt a ha).2; have := ltT0 _ z; omega
   have Q2 : AccW 3 encP 59 h.next H2 o xs := Q.ac.chg c2 fun a ha q => no a ha q
   have Q3 : AccW 3 encP 59 h.next r3.2 o xs := Q2.chg c3' fun a ha q => apo a ha q
   have lx : xs.length ≤ i := by rw [Q.say.1, ansRL_len, eachN_len]; exact Nat.le_refl _
   obtain ⟨s', h9, a1, a2, A', c9, d9⟩ := pushE Q3 encP_len encP_one (r3.1.1, r3.1.2.1, r3.1.2.2) (bytes := 48) e4 (by decide) (by omega) (by omega)
   refine Gx.Wp.bnd a1 (Gx.Wp.bnd a2 ?_)
   have n9 := c9.nx
   rw [Gx.w1 (by omega)]
   have c29 : Chg (fun y => TSet ts y ∨ ofS o y) H2 h9 := (c3'.wk fun y _ z => .inl z).trans (c9.wk fun y _ z => .inr z)
   have nho : ¬ ofS o h.next := fun ⟨a, ha, q⟩ => no a ha q.symm
   refine ih (i + 1) h9 s' (xs ++ [(r3.1.1, r3.1.2.1, r3.1.2.2)]) (i : Int) (by omega) ?_ (by omega) ?_ ?_ ⟨A', ?_, ?_⟩ ?_
   ·refine Chg.beh (T := fun y => ofS o y) (Chg.trans (Chg.beh (T := (· = h.next)) c c2 fun y hy q => by omega) c3') c9 fun y hy ⟨a, ha, q⟩ => ?_
    have := (Q.ac.lt a ha).2; omega
   ·exact c29.got (by omega) (fun z => z.elim (fun z => by have := ltT0 _ z; omega) nho) g2
   ·rw [es]
    refine T3.of c9 fun y hy => ⟨fun z => ?_, ?_, fun a ha q => ?_⟩
    ·obtain ⟨a, ha, q⟩ := hy
     have := (Q.ac.lt a ha).2
     have := ltT _ ((TSet_ans _ _ y).1 z)
     omega
    ·obtain ⟨c', rw', fz', g'⟩ := AccW.ty Q3 hy
     exact ⟨c', _, rw', fz', g', by decide⟩
    ·obtain ⟨b, hb, q2⟩ := hy
     have := (Q.ac.lt b hb).2
     have := sla a ha
     omega
   ·rw [es]
    refine ⟨by simp [Q.say.1], fun a u w hu hw => ?_⟩
    by_cases ci : a < xs.length
    ·rw [List.getElem?_append_left ci] at hu
     rw [List.getElem?_append_left (by rw [← Q.say.1]; exact ci)] at hw
     obtain ⟨z1, z2, z3⟩ := Q.say.2 a u w hu hw
     refine ⟨z1, z2, Row.chg (Row.chg z3 c2 fun b hb q => ?_) c29 fun b hb q => ?_⟩
     ·have := Q.ad a u hu b hb; omega
     ·have w := Q.ad a u hu b hb
      rcases q with q | q
      ·have := ltT0 _ q; omega
      ·exact w.2.2 q
    ·have la := (List.getElem?_eq_some_iff.1 hu).1
     simp only [List.length_append, List.length_cons, List.length_nil] at la
     have ea : a = xs.length := by omega
     subst ea
     rw [List.getElem?_append_right (Nat.le_refl _), Nat.sub_self] at hu
     rw [List.getElem?_append_right (by rw [← Q.say.1]; exact Nat.le_refl _), ← Q.say.1, Nat.sub_self] at hw
     simp at hu hw
     subst hu hw
     exact ⟨e1, e2, Row.chg A3.row c9 fun b hb ⟨a, ha, q⟩ => by have := (A3.lt b hb).2; have := (Q.ac.lt a ha).1; omega⟩
   ·intro a u hu b hb
    by_cases ci : a < xs.length
    ·rw [List.getElem?_append_left ci] at hu
     have w := Q.ad a u hu b hb
     exact ⟨w.1, by omega, fun ⟨x, hx, q⟩ => by have := d9 x hx; omega⟩
    ·have la := (List.getElem?_eq_some_iff.1 hu).1
     simp only [List.length_append, List.length_cons, List.length_nil] at la
     have ea : a = xs.length := by omega
     subst ea
     rw [List.getElem?_append_right (Nat.le_refl _), Nat.sub_self] at hu
     simp at hu
     subst hu
     have w := A3.lt b hb
     exact ⟨by omega, by omega, fun ⟨x, hx, q⟩ => by have := d9 x hx; omega⟩
   ·intro a ha q
    have := d9 a ha; omega
 refine loop n 0 H1 nils [] st (by omega) (Chg.keeps k1) (by omega) g1 (T.keeps k1) ⟨AccW.nil _ _ _ _ _, ⟨rfl, fun i x y hx => by simp at hx⟩, fun i x hx => by simp at hx⟩ fun a ha => by cases ha
end
end Gt
namespace Gt
open Go Gx
variable {F : Nat → Prop}
section
variable {k : Nat} {D : CallF} {h : AHeap}
theorem rCodes_spec {sl : Slc} {xs : List Rp} (R : RowW 3 encP h sl xs) (hl : xs.length ≤ 1048576) (hk : xs.length < k) : Gx.Wp (ref09_Codes k D sl h) fun z => Keeps h z.2 ∧ Gx.Acc encI 27 h.next z.2 z.1 (xs.map (·.1)) := by
 simp only [ref09_Codes]
 refine Gx.Wp.jn fun j hj => ?_
 unfold ref09_Codes_l0
 obtain ⟨bot, eb⟩ := iterK_of (fun _ _ _ _ => none) (ref09_Codes_l0b k D j) (show xs.length + 1 ≤ k by omega)
 rw [eb]
 have loop : ∀ (d i : Nat) (o : Slc) (h' : AHeap), i + d = xs.length → Keeps h h' → Gx.Acc encI 27 h.next h' o ((xs.take i).map (·.1)) → Gx.Wp (iterK bot (d + 1) (ref09_Codes_l0b k D j) sl o (i : Int) h') fun z => Keeps h z.2 ∧ Gx.Acc encI 27 h.next z.2 z.1 (xs.map (·.1)) := fun d => by
  induction d with
  | zero =>
   intro i o h' hd kp A
   obtain rfl : i = xs.length := by omega
   rw [List.take_length] at A
   rw [iterK_s]; simp only [ref09_Codes_l0b]
   subst hj
   exact Gx.Wp.ifn (by rw [R.len]; simp) (Gx.Wp.of ⟨kp, A⟩)
  | succ d ih =>
   intro i o h' hd kp A
   rw [iterK_s]; simp only [ref09_Codes_l0b]
   have np := kp.nx
   obtain ⟨x, hx⟩ := isome (l := xs) (i := i) (by omega)
   obtain ⟨p, b1, _, b2, _⟩ := (R.keeps kp).ld encP_len (by decide) hx
   refine Gx.Wp.ifp (by rw [R.len]; simp; omega) (Gx.Wp.bnd b1 (Gx.Wp.bnd (b2 0 .i64 x.1 rfl) (Gx.Wp.newE fun H3 e3 k3 n3 g3 => ?_)))
   obtain ⟨s', h9, a1, a2, A', c9, d9⟩ := Acc.pushK A encI_one x.1 (bytes := 8) e3 (by simp; omega) (by decide) (by omega)
   refine Gx.Wp.bnd a1 (Gx.Wp.bnd a2 ?_)
   rw [Gx.w1 (by omega)]
   refine ih (i + 1) s' h9 (by omega) (Chg.beh kp c9 fun y hy ⟨a, ha, q⟩ => by have := (A.lt a ha).2; omega) ?_
   rw [show xs.take (i + 1) = xs.take i ++ [x] by rw [List.take_add_one, hx]; rfl, List.map_append]
   exact A'
 exact loop xs.length 0 _ h (by omega) (.refl _ _) (Acc.nil _ _ _ _)
theorem rGood_spec {sl : Slc} {cs : List Int} (R : Row encI h sl cs) (hl : cs.length < 9223372036854775807) (hk : cs.length < k) : ref09_Good k D sl h = some ((goodC cs : Int), h) := by
 simp only [ref09_Good]
 refine jn ?_
 unfold ref09_Good_l0
 generalize hj : (fun (n1 : Int) (h2 : AHeap) => some (n1, h2)) = j
 obtain ⟨bot, eb⟩ := iterK_of (fun _ _ _ _ => none) (ref09_Good_l0b k D j) (show cs.length + 1 ≤ k by omega)
 rw [eb]
 have loop : ∀ (d i : Nat), i + d = cs.length → iterK bot (d + 1) (ref09_Good_l0b k D j) sl (goodC (cs.take i) : Int) (i : Int) h = some ((goodC cs : Int), h) := fun d => by
  induction d with
  | zero =>
   intro i hd
   obtain rfl : i = cs.length := by omega
   rw [iterK_s, List.take_length]; simp only [ref09_Good_l0b]
   subst hj
   exact ifn (by rw [R.1]; simp) rfl
  | succ d ih =>
   intro i hd
   rw [iterK_s]; simp only [ref09_Good_l0b]
   obtain ⟨x, hx⟩ := isome (l := cs) (i := i) (by omega)
   obtain ⟨p, b1, b2⟩ := R.ldI hx
   have e : cs.take (i + 1) = cs.take i ++ [x] := by rw [List.take_add_one, hx]; rfl
   have gl : goodC (cs.take i) ≤ i := Nat.le_trans (List.countP_le_length) (by simp; omega)
   have := ih (i + 1) (by omega)
   refine ifp (by rw [R.1]; simp; omega) (jn (bnd b1 (bnd b2 ?_)))
   rw [e] at this
   by_cases c : x = 0
   ·refine ifp (by simpa using c) ?_
    dsimp only
    rw [Gx.w1 (by omega), Gx.w1 (by omega)]
    have g : goodC (cs.take i ++ [x]) = goodC (cs.take i) + 1 := by simp [goodC, c]
    rw [g] at this; exact this
   ·refine ifn (by simpa using c) ?_
    dsimp only
    rw [Gx.w1 (by omega)]
    have g : goodC (cs.take i ++ [x]) = goodC (cs.take i) := by simp [goodC, c]
    rw [g] at this; exact this
 have := loop cs.length 0 (by omega)
 simpa [goodC] using this
def putN (name : ByteArray) (data : List ByteArray) (n : Nat) : List Rq := (List.range n).map fun i : Nat => ((i : Int), (1 : Int), name, (data[i]?).getD nob)
theorem putN_s (name : ByteArray) (data : List ByteArray) (n : Nat) : putN name data (n + 1) = putN name data n ++ [((n : Int), 1, name, (data[n]?).getD nob)] := by
 simp [putN, List.range_succ]
theorem putN_len (name : ByteArray) (data : List ByteArray) (n : Nat) : (putN name data n).length = n := by simp [putN]
theorem putN_eq {name : ByteArray} {data : List ByteArray} (hm : may data.length = true) : putsL name data = putN name data data.length := by
 unfold putsL
 rw [if_pos hm]; rfl
theorem codesY_app (a b : List Ry) : codesY (a ++ b) = codesY a ++ codesY b := by simp [codesY]
variable {sl : Slc} {m : Nat} {ss : List Sb} {ts : List Tb}
theorem rPuts_spec (T : Rts F h sl m ts) (B : Bth ss ts) (sla : ∀ a, sl.a = some a → a.block < h.next) (name : ByteArray) {dl : Slc} {data : List ByteArray} (R : Row encS h dl data) (dla : ∀ a, dl.a = some a → ¬ TSet ts a.block) (hn : data.length ≤ 255) (hm : m + data.length ≤ 50000) (hk : 100000 < k) :
  Gx.Wp (ref09_Puts k D sl name dl h) fun z => Chg (TSet ts) h z.2 ∧ Rts F z.2 sl (m + data.length) (ansRL (putN name data data.length) ts).1 ∧ Gx.Acc encI 27 h.next z.2 z.1 (codesY (ansRL (putN name data data.length) ts).2) := by
 simp only [ref09_Puts]
 refine Gx.Wp.jn fun j hj => ?_
 unfold ref09_Puts_l0
 obtain ⟨bot, eb⟩ := iterK_of (fun _ _ _ _ _ _ => none) (ref09_Puts_l0b k D j) (show data.length + 1 ≤ k by omega)
 rw [eb]
 have ltT0 : ∀ y, TSet ts y → y < h.next := fun y z => TSet_lt T z
 have loop : ∀ (d i : Nat) (H : AHeap) (o : Slc), i + d = data.length → Chg (TSet ts) h H → Rts F H sl (m + i) (ansRL (putN name data i) ts).1 → Gx.Acc encI 27 h.next H o (codesY (ansRL (putN name data i) ts).2) →
   Gx.Wp (iterK bot (d + 1) (ref09_Puts_l0b k D j) sl name dl o (i : Int) H) fun z => Chg (TSet ts) h z.2 ∧ Rts F z.2 sl (m + data.length) (ansRL (putN name data data.length) ts).1 ∧ Gx.Acc encI 27 h.next z.2 z.1 (codesY (ansRL (putN name data data.length) ts).2) := fun d => by
  induction d with
  | zero =>
   intro i H o hd c TH A
   obtain rfl : i = data.length := by omega
   rw [iterK_s]; simp only [ref09_Puts_l0b]
   subst hj
   exact Gx.Wp.ifn (by rw [R.1]; simp) (Gx.Wp.of ⟨c, TH, A⟩)
  | succ d ih =>
   intro i H o hd c TH A
   rw [iterK_s]; simp only [ref09_Puts_l0b]
   have nH := c.nx
   obtain ⟨x, hx⟩ := isome (l := data) (i := i) (by omega)
   obtain ⟨p, b1, b2⟩ := (Row.chg R c fun a ha => dla a ha).ldS hx
   have B2 := (both_all (qs := putN name data i) B).2
   refine Gx.Wp.ifp (by rw [R.1]; simp; omega) (Gx.Wp.bnd b1 (Gx.Wp.bnd b2 (Gx.Wp.call (RAnswer_spec D TH ((i : Int), 1, name, x) (by omega) (by omega) (by omega) (B2.tot TH (by omega))) fun r3 q3 => ?_)))
   obtain ⟨c3, T3, e1, e2, A3⟩ := q3
   have n3 := c3.nx
   have es : (ansRL (putN name data (i + 1)) ts) = ((ansR (ansRL (putN name data i) ts).1 ((i : Int), 1, name, x)).1, (ansRL (putN name data i) ts).2 ++ [(ansR (ansRL (putN name data i) ts).1 ((i : Int), 1, name, x)).2]) := by
    rw [putN_s, ansRL_snoc, hx]; rfl
   have ltT : ∀ y, TSet (ansRL (putN name data i) ts).1 y → y < h.next := fun y z => ltT0 y ((TSet_ansRL y _ _).1 z)
   have c3' : Chg (TSet ts) H r3.2 := c3.wk fun y _ z => (TSet_ansRL y _ _).1 z
   have A2 : Gx.Acc encI 27 h.next r3.2 o (codesY (ansRL (putN name data i) ts).2) := A.chg c3' fun a ha z => by have := (A.lt a ha).2; have := ltT0 _ z; omega
   refine Gx.Wp.newE fun H4 e4 k4 n4 g4 => ?_
   have lc : (codesY (ansRL (putN name data i) ts).2).length = i := by simp [codesY, ansRL_len, putN_len]
   obtain ⟨s', h9, a1, a2, A', c9, d9⟩ := Acc.pushK A2 encI_one r3.1.1 (bytes := 8) e4 (by omega) (by decide) (by omega)
   refine Gx.Wp.bnd a1 (Gx.Wp.bnd a2 ?_)
   rw [Gx.w1 (by omega)]
   refine ih (i + 1) h9 s' (by omega) (Chg.beh (T := fun y => ofS o y) (c.trans c3') c9 fun y hy ⟨a, ha, q⟩ => by have := (A.lt a ha).2; omega) ?_ ?_
   ·rw [es]
    refine T3.of c9 fun y hy => ⟨fun z => ?_, ?_, fun a ha q => ?_⟩
    ·obtain ⟨a, ha, q⟩ := hy
     have := (A.lt a ha).2
     have := ltT _ ((TSet_ans _ _ y).1 z)
     omega
    ·obtain ⟨c', rw', fz', g'⟩ := Acc.ty A2 hy
     exact ⟨c', _, rw', fz', g', by decide⟩
    ·obtain ⟨b, hb, q2⟩ := hy
     have := (A.lt b hb).2
     have := sla a ha
     omega
   ·rw [es, codesY_app]
    rw [e1] at A'
    exact A'
 exact loop data.length 0 h nils (by omega) (Chg.refl _ _) T (Acc.nil _ _ _ _)
theorem ui_lt {n : ByteArray} : ∀ {L : List ByteArray} {i : Nat}, i < ui n L → ∃ x, L[i]? = some x ∧ bl x < bl n
 | [], i, h => by simp [ui] at h
 | o :: l, i, h => by
  simp only [ui] at h
  split at h
  ·rename_i c
   cases i with
   | zero => exact ⟨o, rfl, c⟩
   | succ i => exact ui_lt (L := l) (by omega)
  ·omega
theorem ui_ge {n : ByteArray} : ∀ {L : List ByteArray} {x : ByteArray}, L[ui n L]? = some x → ¬ bl x < bl n
 | [], x, h => by simp at h
 | o :: l, x, h => by
  simp only [ui] at h
  split at h
  ·exact ui_ge (L := l) (by simpa using h)
  ·rename_i c
   simp at h; subst h; exact c
theorem union_l2 (bot) {a : Slc} {ou : Slc} {i kv : Int} {n : ByteArray} {L : List ByteArray} (R : Row encS h ou L) (hl : L.length ≤ 1099511627776) {Q : Slc × AHeap → Prop} {J} (hJ : Gx.Wp (J a ou i kv n (ui n L : Int) h) Q) :
  ∀ (d p : Nat), p + d = ui n L → Gx.Wp (iterK bot (d + 1) (ref09_Union_l2b k D J) a ou i kv n (p : Int) h) Q := fun d => by
 have le := ui_le n L
 induction d with
 | zero =>
  intro p hd
  obtain rfl : p = ui n L := by omega
  rw [iterK_s]; simp only [ref09_Union_l2b]
  refine Gx.Wp.jn fun j hj => ?_
  by_cases c : ui n L < L.length
  ·obtain ⟨x, hx⟩ := isome c
   obtain ⟨q, q1, q2⟩ := R.ldS hx
   refine Gx.Wp.ifp (by rw [R.1]; simp; omega) (Gx.Wp.bnd q1 (Gx.Wp.bnd q2 ?_))
   rw [less_eq, decide_eq_false (ui_ge hx)]
   subst hj
   exact Gx.Wp.ifn (fun z => by cases z) hJ
  ·refine Gx.Wp.ifn (by rw [R.1]; simp; omega) ?_
   subst hj
   exact Gx.Wp.ifn (fun z => by cases z) hJ
 | succ d ih =>
  intro p hd
  rw [iterK_s]; simp only [ref09_Union_l2b]
  refine Gx.Wp.jn fun j hj => ?_
  obtain ⟨x, hx, lt⟩ := ui_lt (L := L) (n := n) (i := p) (by omega)
  obtain ⟨q, q1, q2⟩ := R.ldS hx
  have := (List.getElem?_eq_some_iff.1 hx).1
  refine Gx.Wp.ifp (by rw [R.1]; simp; omega) (Gx.Wp.bnd q1 (Gx.Wp.bnd q2 ?_))
  rw [less_eq, decide_eq_true lt]
  subst hj
  refine Gx.Wp.ifp rfl ?_
  rw [Gx.w1 (by omega)]
  exact ih (p + 1) (by omega)
end
end Gt
namespace Gt
open Go Gx
variable {F : Nat → Prop}
theorem rowP_ld {h : AHeap} {s : Slc} {xs : List Rp} {i : Nat} {x : Rp} (R : RowW 3 encP h s xs) (hx : xs[i]? = some x) : ∃ q, Gx.idxL 3 s (i : Int) = some q ∧ Gx.ldL ⟨q.block, q.off + 2, none⟩ h = some ⟨x.2.2.a, x.2.2.len, x.2.2.cap⟩ ∧ Gx.ldI .i64 ⟨q.block, q.off + 0, none⟩ h = some x.1 ∧ Gx.ldS ⟨q.block, q.off + 1, none⟩ h = some x.2.1 := by
 obtain ⟨a, c, e, r, fz, h1, h2, h3, h4⟩ := R.at' i x hx
 have hi : i < s.len := by rw [R.len]; exact (List.getElem?_eq_some_iff.1 hx).1
 refine ⟨⟨a.block, a.off + i * 3, none⟩, ?_, sldL_at h3 (h4 2 _ rfl), sldI_at h3 (h4 0 _ rfl), ldS_at h3 (h4 1 _ rfl)⟩
 simp only [idxL, h1]
 rw [if_pos (by omega), Int.toNat_natCast]
section
variable {k : Nat} {D : CallF} {h0 : AHeap}
theorem union_ins {H : AHeap} {ou : Slc} {L : List ByteArray} {n : ByteArray} (A : AccV 1 encS1 9 h0.next H ou L) (hb : h0.next ≤ H.next) (hl : L.length ≤ 1099511627776) {R : Type} {Q : R → Prop} {f : Slc → AHeap → Option R}
  (hf : ∀ s' H', AccV 1 encS1 9 h0.next H' s' (L.take (ui n L) ++ n :: L.drop (ui n L)) → Keeps H H' → Gx.Wp (f s' H') Q) :
  Gx.Wp ((Gx.subL 1 ou none (some (ui n L : Int)) none).bind fun l49 => (rdS 1 l49 H).bind fun n51 => (appendA 1 16 9 H (⟨none, 0, 0⟩ : Slc) n51 l49.len).bind fun r50 => newK r50.2 (.cells [.string n] 9 true 0) fun h52 => (rdS 1 (⟨some ⟨r50.2.next, 0, some 0⟩, 1, 1⟩ : Slc) h52).bind fun n54 => (appendA 1 16 9 h52 r50.1 n54 1).bind fun r53 => (Gx.subL 1 ou (some (ui n L : Int)) none none).bind fun l55 => (rdS 1 l55 r53.2).bind fun n57 => (appendA 1 16 9 r53.2 r53.1 n57 l55.len).bind fun r56 => f r56.1 r56.2) Q := by
 have hi := ui_le n L
 have len := (A.row encS1_len).len
 obtain ⟨t1, u1, u2, u3⟩ := A.sub (lo := none) (hi := some (ui n L : Int)) (i := 0) (j := ui n L) encS1_len rfl rfl (Nat.zero_le _) hi
 refine Gx.Wp.bnd u1 (Gx.Wp.bnd (u3 H A) ?_)
 have hn : t1.len = (L.take (ui n L)).length := by rw [u2]; simp; omega
 rw [hn, List.drop_zero]
 obtain ⟨s7, h7, a7, A7, c7, d7⟩ := (AccV.nil 1 encS1 9 H.next H).app encS1_len encS1_one (L.take (ui n L)) (bytes := 16) (by decide) (by simp; omega) (Nat.le_refl _)
 refine Gx.Wp.bnd a7 ?_
 have k7 : Keeps H h7 := c7.wk fun y _ ⟨a, ha, _⟩ => by cases ha
 have n7 := k7.nx
 refine Gx.Wp.newE fun h8 e8 k8 n8 g8 => ?_
 have rd8 : Gx.rdS 1 (⟨some ⟨h7.next, 0, some 0⟩, 1, 1⟩ : Slc) h8 = some (encS1 n) := e8 ▸ rdS_oneW encS1_len n 9
 refine Gx.Wp.bnd rd8 ?_
 have A8 := A7.keeps k8
 dsimp only at n8
 obtain ⟨s9, h9, a9, A9, c9, d9⟩ := A8.app encS1_len encS1_one [n] (bytes := 16) (by decide) (by simp; omega) (by omega)
 have ef : [n].flatMap encS1 = encS1 n := by simp
 rw [ef] at a9
 refine Gx.Wp.bnd a9 ?_
 have n9 := c9.nx
 have k9 : Keeps H h9 := Chg.beh (k7.trans k8) c9 fun y hy ⟨a, ha, q⟩ => by have := (A7.lt a ha).2; omega
 have AL9 := A.keeps k9
 obtain ⟨t2, v1, v2, v3⟩ := AL9.sub (lo := some (ui n L : Int)) (hi := none) (i := ui n L) (j := L.length) encS1_len rfl (by simp [len]) hi (Nat.le_refl _)
 refine Gx.Wp.bnd v1 (Gx.Wp.bnd (v3 h9 AL9) ?_)
 have hn2 : t2.len = (L.drop (ui n L)).length := by rw [v2]; simp
 rw [hn2, List.take_length]
 obtain ⟨s11, h11, a11, A11, c11, d11⟩ := A9.app encS1_len encS1_one (L.drop (ui n L)) (bytes := 16) (by decide) (by simp; omega) (by omega)
 refine Gx.Wp.bnd a11 ?_
 have k11 : Keeps H h11 := Chg.beh k9 c11 fun y hy ⟨a, ha, q⟩ => by have := (A9.lt a ha).2; omega
 refine hf s11 h11 ?_ k11
 have e1 : L.take (ui n L) ++ n :: L.drop (ui n L) = [] ++ L.take (ui n L) ++ [n] ++ L.drop (ui n L) := by simp
 rw [e1]
 exact ⟨A11.st, fun a ha => ⟨(A11.lt a ha).1, by have := (A11.lt a ha).2; omega⟩⟩
theorem union_l1 (bot) {l : Slc} {xs : List Rp} {i : Nat} {x : Rp} {ns : List ByteArray} (R : RowW 3 encP h0 l xs) (hx : xs[i]? = some x) (N : Row encS h0 x.2.2 ns) (hn : ns.length ≤ 1048576) {L0 : List ByteArray} (hL : L0.length ≤ 300000000) (hk : 400000000 ≤ k) {Q : Slc × AHeap → Prop} {J}
  (hJ : ∀ ou H, Keeps h0 H → AccV 1 encS1 9 h0.next H ou (insAll ns L0) → Gx.Wp (J l ou (i : Int) H) Q) :
  ∀ (d c : Nat) (ou : Slc) (H : AHeap), c + d = ns.length → Keeps h0 H → AccV 1 encS1 9 h0.next H ou (insAll (ns.take c) L0) → Gx.Wp (iterK bot (d + 1) (ref09_Union_l1b k D J) l ou (i : Int) (c : Int) H) Q := fun d => by
 induction d with
 | zero =>
  intro c ou H hd kH A
  obtain rfl : c = ns.length := by omega
  rw [List.take_length] at A
  rw [iterK_s]; simp only [ref09_Union_l1b]
  obtain ⟨q, q1, q2, _⟩ := rowP_ld (R.keeps kH) hx
  exact Gx.Wp.bnd q1 (Gx.Wp.bnd q2 (Gx.Wp.ifn (by rw [N.1]; simp) (hJ ou H kH A)))
 | succ d ih =>
  intro c ou H hd kH A
  rw [iterK_s]; simp only [ref09_Union_l1b]
  obtain ⟨q, q1, q2, _⟩ := rowP_ld (R.keeps kH) hx
  obtain ⟨n, hn'⟩ := isome (l := ns) (i := c) (by omega)
  obtain ⟨p, p1, p2⟩ := (Row.keeps N kH).ldS hn'
  refine Gx.Wp.bnd q1 (Gx.Wp.bnd q2 (Gx.Wp.ifp (by rw [N.1]; simp; omega) (Gx.Wp.jn fun j27 hj27 => Gx.Wp.bnd q1 (Gx.Wp.bnd q2 (Gx.Wp.bnd p1 (Gx.Wp.bnd p2 (Gx.Wp.jn fun j39 hj39 => ?_)))))))
  have e : ns.take (c + 1) = ns.take c ++ [n] := by rw [List.take_add_one, hn']; rfl
  have LL := insAll_len (ns.take c) L0
  have tl : (ns.take c).length ≤ 1048576 := by simp; omega
  obtain ⟨L, eL⟩ : ∃ L, L = insAll (ns.take c) L0 := ⟨_, rfl⟩
  rw [← eL] at A LL
  have go : ∀ ou' H', Keeps H H' → AccV 1 encS1 9 h0.next H' ou' (insN n L) → Gx.Wp (j27 l ou' (i : Int) (c : Int) H') Q := by
   intro ou' H' kk A'
   subst hj27
   dsimp only
   rw [Gx.w1 (by omega)]
   refine ih (c + 1) ou' H' (by omega) (kH.trans kk) ?_
   rw [e, insAll_snoc, ← eL]; exact A'
  have RL : Row encS H ou L := RowW.rowS (A.row encS1_len)
  unfold ref09_Union_l2
  have ul := ui_le n L
  obtain ⟨bot2, eb2⟩ := iterK_of (fun _ _ _ _ _ _ _ => none) (ref09_Union_l2b k D j39) (show ui n L + 1 ≤ k by omega)
  rw [eb2]
  refine union_l2 bot2 RL (by omega) ?_ (ui n L) 0 (by omega)
  subst hj39
  refine Gx.Wp.jn fun j48 hj48 => ?_
  have ins : L[ui n L]? ≠ some n → Gx.Wp (j48 l ou (i : Int) (c : Int) n (ui n L : Int) false H) Q := by
   intro ne
   subst hj48
   refine Gx.Wp.ifn (fun z => by cases z) (union_ins (n := n) A kH.nx (by omega) fun s' H' A' k' => go s' H' k' ?_)
   rw [ui_no ne]; exact A'
  by_cases c2 : ui n L < L.length
  ·obtain ⟨y, hy⟩ := isome c2
   obtain ⟨p, p1, p2⟩ := RL.ldS hy
   refine Gx.Wp.ifp (by rw [RL.1]; simp; omega) (Gx.Wp.bnd p1 (Gx.Wp.bnd p2 ?_))
   rw [ba_beq]
   by_cases c3 : y = n
   ·rw [decide_eq_true c3]
    subst hj48
    refine Gx.Wp.ifp rfl (go ou H (.refl _ _) ?_)
    rw [ui_hit (by rw [hy, c3])]; exact A
   ·rw [decide_eq_false c3]
    exact ins fun z => c3 (by rw [hy] at z; exact Option.some.inj z)
  ·refine Gx.Wp.ifn (by rw [RL.1]; simp; omega) (ins fun z => ?_)
   rw [List.getElem?_eq_none (by omega)] at z; cases z
theorem union_spec {l : Slc} {xs : List Rp} {ys : List Ry} (R : RowW 3 encP h0 l xs) (S : Say h0 xs ys) (hn : ys.length ≤ 255) (hs : ∀ y ∈ ys, y.2.2.length ≤ 1048576) (hk : 400000000 ≤ k) :
  Gx.Wp (ref09_Union k D l h0) fun z => Keeps h0 z.2 ∧ Row encS z.2 z.1 (namesY ys) ∧ (∀ a, z.1.a = some a → h0.next ≤ a.block ∧ a.block < z.2.next) := by
 simp only [ref09_Union]
 refine Gx.Wp.jn fun j hj => ?_
 unfold ref09_Union_l0
 have lx := S.1
 obtain ⟨bot, eb⟩ := iterK_of (fun _ _ _ _ => none) (ref09_Union_l0b k D j) (show xs.length + 1 ≤ k by omega)
 rw [eb]
 have loop : ∀ (d i : Nat) (ou : Slc) (H : AHeap), i + d = xs.length → Keeps h0 H → AccV 1 encS1 9 h0.next H ou (unionA (ys.take i) []) → (unionA (ys.take i) []).length ≤ i * 1048576 →
   Gx.Wp (iterK bot (d + 1) (ref09_Union_l0b k D j) l ou (i : Int) H) fun z => Keeps h0 z.2 ∧ Row encS z.2 z.1 (namesY ys) ∧ (∀ a, z.1.a = some a → h0.next ≤ a.block ∧ a.block < z.2.next) := fun d => by
  induction d with
  | zero =>
   intro i ou H hd kH A _
   obtain rfl : i = xs.length := by omega
   rw [List.take_of_length_le (by omega), union_eq] at A
   rw [iterK_s]; simp only [ref09_Union_l0b]
   subst hj
   exact Gx.Wp.ifn (by rw [R.len]; simp) (Gx.Wp.of ⟨kH, RowW.rowS (A.row encS1_len), fun a ha => ⟨(A.lt a ha).2, (A.lt a ha).1⟩⟩)
  | succ d ih =>
   intro i ou H hd kH A lk
   rw [iterK_s]; simp only [ref09_Union_l0b]
   obtain ⟨x, hx⟩ := isome (l := xs) (i := i) (by omega)
   obtain ⟨y, hy⟩ := isome (l := ys) (i := i) (by omega)
   obtain ⟨_, _, s3⟩ := S.2 i x y hx hy
   have sy := hs y (mem_of hy)
   refine Gx.Wp.ifp (by rw [R.len]; simp; omega) (Gx.Wp.jn fun j13 hj13 => ?_)
   unfold ref09_Union_l1
   obtain ⟨bot1, eb1⟩ := iterK_of (fun _ _ _ _ _ => none) (ref09_Union_l1b k D j13) (show y.2.2.length + 1 ≤ k by omega)
   rw [eb1]
   have lk2 : (unionA (ys.take i) []).length ≤ 300000000 := by
    have : i ≤ 254 := by omega
    omega
   refine union_l1 (h0 := h0) bot1 R hx s3 sy lk2 hk (fun ou2 H2 k2 A2 => ?_) y.2.2.length 0 ou H (by omega) kH A
   subst hj13
   dsimp only
   rw [Gx.w1 (by omega)]
   have et : ys.take (i + 1) = ys.take i ++ [y] := by rw [List.take_add_one, hy]; rfl
   refine ih (i + 1) ou2 H2 (by omega) k2 ?_ ?_
   ·rw [et, union_snoc]; exact A2
   ·rw [et, union_snoc]
    have := insAll_len y.2.2 (unionA (ys.take i) [])
    omega
 exact loop xs.length 0 nils h0 (by omega) (.refl _ _) (AccV.nil _ _ _ _ _) (Nat.zero_le _)
end
end Gt
namespace Gt
open Go Gx
variable {F : Nat → Prop}
theorem Rts.wk {h : AHeap} {sl : Slc} {m m' : Nat} {ts : List Tb} (T : Rts F h sl m ts) (le : m ≤ m') : Rts F h sl m' ts := ⟨T.rd, T.fr, fun i t hi => ⟨(T.st i t hi).1, ⟨Nat.le_trans (T.st i t hi).2.l le, Nat.le_trans (T.st i t hi).2.c le, (T.st i t hi).2.f⟩⟩, T.ap⟩
theorem bad_spec {k : Nat} (D : CallF) (n : Int) (h : AHeap) : ref09_bad k D n h = some (!may n, h) := by
 simp only [ref09_bad, may]
 by_cases c : n < 1
 ·rw [if_pos (by simpa using c), decide_eq_false (by omega)]; rfl
 ·rw [if_neg (by simpa using c)]
  by_cases c2 : n > 255
  ·rw [decide_eq_true c2, decide_eq_false (by omega)]; rfl
  ·rw [decide_eq_false c2, decide_eq_true (by omega)]; rfl
theorem refused_spec {k : Nat} (D : CallF) (h : AHeap) : Gx.Wp (ref09_refused k D h) fun z => Keeps h z.2 ∧ z.1 = (1, nob, 0, nils, nils, nils, nils) := by
 simp only [ref09_refused]
 refine Gx.Wp.new fun H1 k1 n1 g1 => Gx.Wp.stL (sp := none) g1 rfl rfl rfl (by decide) fun H2 c2 n2 g2 => Gx.Wp.bnd (sldA_at g2 rfl) (Gx.Wp.bnd rfl (Gx.Wp.of ⟨?_, rfl⟩))
 exact Chg.beh (T := (· = h.next)) k1 c2 fun y hy q => by omega
section
variable {k : Nat} {D : CallF} {h : AHeap} {sl : Slc} {m : Nat} {ss : List Sb} {ts : List Tb}
def JobR (F : Nat → Prop) (h : AHeap) (sl : Slc) (m : Nat) (ts ts' : List Tb) (r : Rz) (z : ResT × AHeap) : Prop :=
 Chg (TSet ts) h z.2 ∧ Rts F z.2 sl m ts' ∧ ResOk z.2 r z.1 ∧ (∀ a, z.1.2.2.2.1.a = some a → h.next ≤ a.block) ∧ ∀ a, z.1.2.2.2.2.1.a = some a → h.next ≤ a.block
theorem job_fin {H : AHeap} {b : Nat} {c : List Value} {ts' : List Tb} {ids texts : Slc} {r : Rz} (cH : Chg (TSet ts) h H) (hb : h.next ≤ b) (hl : b < H.next) (g : H.get b = some (.cells c 42 true 0)) (hc : c.length = 7) (T : Rts F H sl m ts') (T0 : ∀ y, TSet ts' y → y < h.next) (sla : ∀ a, sl.a = some a → a.block < h.next)
  (Ri : Row encS H ids r.ids) (oi : ∀ a, ids.a = some a → h.next ≤ a.block ∧ a.block ≠ b) (Rt : Row encS H texts r.texts) (ot : ∀ a, texts.a = some a → h.next ≤ a.block ∧ a.block ≠ b) {cd n : Int} (hcd : cd = r.code) (hn : n = r.n) :
  Gx.Wp ((Gx.stL 7 (⟨b, 0, none⟩ : Addr) [.int .i64 cd, .string ⟨#[]⟩, .int .i64 n, .slice ids.a ids.len ids.cap, .slice texts.a texts.len texts.cap, .slice none 0 0, .slice none 0 0] H).bind fun h10 => (ldA 7 (⟨b, 0, none⟩ : Addr) h10).bind fun l11 => (decC [.i .i64, .s, .i .i64, .l, .l, .l, .l] l11).bind fun x12 =>
   some ((x12.1, x12.2.1, x12.2.2.1, x12.2.2.2.1, x12.2.2.2.2.1, x12.2.2.2.2.2.1, x12.2.2.2.2.2.2), h10)) (JobR F h sl m ts ts' r) := by
 refine Gx.Wp.stL (sp := none) g hc rfl rfl (by decide) fun H2 c2 n2 g2 => Gx.Wp.bnd (sldA_at g2 rfl) (Gx.Wp.bnd rfl (Gx.Wp.of ⟨?_, ?_, ⟨hcd, rfl, hn, ?_, ?_, rfl, rfl⟩, fun a ha => (oi a ha).1, fun a ha => (ot a ha).1⟩))
 ·exact Chg.beh (T := (· = b)) cH c2 fun y hy q => by omega
 ·refine T.of c2 fun y hy => ?_
  subst hy
  exact ⟨fun z => by have := T0 _ z; omega, ⟨_, _, _, _, g, by decide⟩, fun a ha q => by have := sla a ha; omega⟩
 ·exact Row.chg Ri c2 fun a ha q => (oi a ha).2 q
 ·exact Row.chg Rt c2 fun a ha q => (ot a ha).2 q
theorem job_bad {H : AHeap} {b : Nat} {c : List Value} (cH : Keeps h H) (hb : h.next ≤ b) (hl : b < H.next) (g : H.get b = some (.cells c 42 true 0)) (hc : c.length = 7) (T : Rts F h sl m ts) (sla : ∀ a, sl.a = some a → a.block < h.next) :
  Gx.Wp ((ref09_refused k D H).bind fun r3 => (Gx.stL 7 (⟨b, 0, none⟩ : Addr) [.int .i64 r3.1.1, .string r3.1.2.1, .int .i64 r3.1.2.2.1, .slice r3.1.2.2.2.1.a r3.1.2.2.2.1.len r3.1.2.2.2.1.cap, .slice r3.1.2.2.2.2.1.a r3.1.2.2.2.2.1.len r3.1.2.2.2.2.1.cap, .slice r3.1.2.2.2.2.2.1.a r3.1.2.2.2.2.2.1.len r3.1.2.2.2.2.2.1.cap, .slice r3.1.2.2.2.2.2.2.a r3.1.2.2.2.2.2.2.len r3.1.2.2.2.2.2.2.cap] r3.2).bind fun h10 => (ldA 7 (⟨b, 0, none⟩ : Addr) h10).bind fun l11 => (decC [.i .i64, .s, .i .i64, .l, .l, .l, .l] l11).bind fun x12 =>
   some ((x12.1, x12.2.1, x12.2.2.1, x12.2.2.2.1, x12.2.2.2.2.1, x12.2.2.2.2.2.1, x12.2.2.2.2.2.2), h10)) (JobR F h sl m ts ts ⟨1, 0, [], []⟩) := by
 refine Gx.Wp.call (refused_spec D H) fun r3 q3 => ?_
 obtain ⟨k3, e3⟩ := q3
 rw [e3]
 have n3 := k3.nx
 exact job_fin (ids := nils) (texts := nils) (r := ⟨1, 0, [], []⟩) ((Chg.keeps (cH.trans k3))) hb (by omega) (k3.got hl g) hc (T.keeps (cH.trans k3)) (fun y z => TSet_lt T z) sla (nilS' _) (fun a ha => by cases ha) (nilS' _) (fun a ha => by cases ha) rfl rfl
theorem rPutJob_spec (T : Rts F h sl m ts) (B : Bth ss ts) (sla : ∀ a, sl.a = some a → a.block < h.next) (name : ByteArray) {dl : Slc} {data : List ByteArray} (R : Row encS h dl data) (dla : ∀ a, dl.a = some a → ¬ TSet ts a.block) (hm : m + 255 ≤ 50000) (hk : 400000000 ≤ k) :
  Gx.Wp (ref09_PutJob k D sl name dl h) (JobR F h sl (m + 255) ts (ansRL (putsL name data) ts).1 (if may data.length = true then codesZ (codesY (ansRL (putsL name data) ts).2) else ⟨1, 0, [], []⟩)) := by
 simp only [ref09_PutJob]
 refine Gx.Wp.new fun H1 k1 n1 g1 => ?_
 refine Gx.Wp.bnd (bad_spec D _ H1) ?_
 rw [R.1]
 by_cases c : may data.length = true
 ·have hle : data.length ≤ 255 := by
   have : 1 ≤ (data.length : Int) ∧ (data.length : Int) ≤ 255 := by simpa [may] using c
   omega
  rw [c, if_pos rfl, putN_eq c]
  refine Gx.Wp.ifn (fun z => by cases z) (Gx.Wp.call (rPuts_spec (T.keeps k1) B (fun a ha => by have := sla a ha; omega) name (Row.keeps R k1) dla hle (by omega) (by omega)) fun r7 q7 => ?_)
  obtain ⟨c7, T7, A7⟩ := q7
  have n7 := c7.nx
  have ltT : ∀ y, TSet ts y → y < h.next := fun y z => TSet_lt T z
  have lc : (codesY (ansRL (putN name data data.length) ts).2).length = data.length := by simp [codesY, ansRL_len, putN_len]
  refine Gx.Wp.bnd (rfirst_spec A7.row (nilI _) (by omega) (by omega) (by decide) (by show 0 < k; omega)) (Gx.Wp.bnd (rGood_spec A7.row (by omega) (by omega)) ?_)
  exact job_fin (ids := nils) (texts := nils) (r := codesZ (codesY (ansRL (putN name data data.length) ts).2)) ((Chg.keeps k1).trans c7) (Nat.le_refl _) (by omega) (c7.got (by omega) (fun z => by have := ltT _ z; omega) g1) rfl (T7.wk (by omega)) (fun y z => ltT y ((TSet_ansRL y _ _).1 z)) sla (nilS' _) (fun a ha => by cases ha) (nilS' _) (fun a ha => by cases ha) rfl rfl
 ·have c' : may data.length = false := by simpa using c
  have e : putsL name data = [] := by unfold putsL; rw [if_neg c]
  rw [if_neg c, c', e]
  refine Gx.Wp.ifp rfl ?_
  exact Gx.Wp.mono (job_bad (m := m + 255) k1 (Nat.le_refl _) (by dsimp only; omega) g1 rfl (T.wk (by omega)) sla) fun z hz => hz
theorem rAsk_spec (T : Rts F h sl m ts) (B : Bth ss ts) (sla : ∀ a, sl.a = some a → a.block < h.next) {n : Int} (hn : may n = true) (kind : Int) (name : ByteArray) (hm : m + 255 ≤ 50000) (hk : 400000000 ≤ k) :
  Gx.Wp (ref09_All k D sl n (0, kind, name, ⟨#[]⟩) h) fun z => ∃ xs, Chg (TSet ts) h z.2 ∧ Rts F z.2 sl (m + 255) (ansRL (askL n kind name nob) ts).1 ∧ AllQ h z.2 z.1 (ansRL (askL n kind name nob) ts).2 xs ∧ (ansRL (askL n kind name nob) ts).2.length ≤ 255 := by
 have hm1 : 1 ≤ n ∧ n ≤ 255 := by simpa [may] using hn
 obtain ⟨i, rfl⟩ : ∃ i : Nat, n = (i : Int) := ⟨n.toNat, by omega⟩
 rw [eachN_ask hn, Int.toNat_natCast]
 refine Gx.Wp.mono (rAll_spec T B sla i (by omega) kind name nob 0 (by omega) (by omega)) fun z ⟨xs, c, T', Q⟩ => ⟨xs, c, T'.wk (by omega), Q, ?_⟩
 rw [ansRL_len, eachN_len]; omega
theorem askL_none {n kind : Int} {name : ByteArray} (c : ¬ may n = true) : askL n kind name nob = [] := by unfold askL; rw [if_neg c]
theorem rListJob_spec (T : Rts F h sl m ts) (B : Bth ss ts) (sla : ∀ a, sl.a = some a → a.block < h.next) (n : Int) (name : ByteArray) (hm : m + 255 ≤ 50000) (hk : 400000000 ≤ k) (hs : ∀ y ∈ (ansRL (askL n 3 name nob) ts).2, y.2.2.length ≤ 1048576) :
  Gx.Wp (ref09_ListJob k D sl n name h) (JobR F h sl (m + 255) ts (ansRL (askL n 3 name nob) ts).1 (if may n = true then namesZ (namesY (ansRL (askL n 3 name nob) ts).2) (codesY (ansRL (askL n 3 name nob) ts).2) else ⟨1, 0, [], []⟩)) := by
 simp only [ref09_ListJob]
 refine Gx.Wp.new fun H1 k1 n1 g1 => ?_
 refine Gx.Wp.bnd (bad_spec D _ H1) ?_
 by_cases c : may n = true
 ·rw [c, if_pos rfl]
  refine Gx.Wp.ifn (fun z => by cases z) (Gx.Wp.call (rAsk_spec (T.keeps k1) B (fun a ha => by have := sla a ha; omega) c 3 name hm hk) fun r7 q7 => ?_)
  obtain ⟨xs, c7, T7, Q7, l7⟩ := q7
  have n7 := c7.nx
  have ltT : ∀ y, TSet ts y → y < h.next := fun y z => TSet_lt T z
  have lx := Q7.say.1
  have R7 := Q7.ac.row encP_len
  refine Gx.Wp.call (rCodes_spec R7 (by omega) (by omega)) fun r8 q8 => ?_
  obtain ⟨k8, A8⟩ := q8
  rw [say_codes Q7.say] at A8
  have lc : (codesY (ansRL (askL n 3 name nob) ts).2).length ≤ 255 := by simpa [codesY] using l7
  refine Gx.Wp.bnd (rfirst_spec A8.row (nilI _) (by omega) (by omega) (by decide) (by show 0 < k; omega)) ?_
  refine Gx.Wp.call (rCodes_spec (R7.keeps k8) (by omega) (by omega)) fun r10 q10 => ?_
  obtain ⟨k10, A10⟩ := q10
  rw [say_codes Q7.say] at A10
  refine Gx.Wp.bnd (rGood_spec A10.row (by omega) (by omega)) ?_
  have k7 : Keeps r7.2 r10.2 := k8.trans k10
  have S10 : Say r10.2 xs (ansRL (askL n 3 name nob) ts).2 := ⟨Q7.say.1, fun i x y hx hy => ⟨(Q7.say.2 i x y hx hy).1, (Q7.say.2 i x y hx hy).2.1, Row.keeps (Q7.say.2 i x y hx hy).2.2 k7⟩⟩
  refine Gx.Wp.call (union_spec (R7.keeps k7) S10 l7 hs hk) fun r12 q12 => ?_
  obtain ⟨k12, R12, o12⟩ := q12
  have m10 := k7.nx
  have m12 := k12.nx
  dsimp only at m12
  have kk : Keeps r7.2 r12.2 := k7.trans k12
  have cc : Chg (TSet ts) h r12.2 := ((Chg.keeps k1).trans c7).trans (Chg.keeps kk)
  exact job_fin (b := h.next) (ids := r12.1) (texts := nils) (r := namesZ (namesY (ansRL (askL n 3 name nob) ts).2) (codesY (ansRL (askL n 3 name nob) ts).2)) cc (Nat.le_refl _) (by omega) (kk.got (by omega) (c7.got (by omega) (fun z => by have := ltT _ z; omega) g1)) rfl (T7.keeps kk) (fun y z => ltT y ((TSet_ansRL y _ _).1 z)) sla R12 (fun a ha => by have := o12 a ha; dsimp only at this; omega) (nilS' _) (fun a ha => by cases ha) rfl rfl
 ·have c' : may n = false := by simpa using c
  rw [if_neg c, c', askL_none c]
  exact Gx.Wp.ifp rfl (Gx.Wp.mono (job_bad (m := m + 255) k1 (Nat.le_refl _) (by dsimp only; omega) g1 rfl (T.wk (by omega)) sla) fun z hz => hz)
end
end Gt
namespace Gt
open Go Gx
variable {F : Nat → Prop}
section
variable {k : Nat} {D : CallF} {h : AHeap} {sl : Slc} {m : Nat} {ss : List Sb} {ts : List Tb}
theorem rDelJob_spec (T : Rts F h sl m ts) (B : Bth ss ts) (sla : ∀ a, sl.a = some a → a.block < h.next) (n : Int) (name : ByteArray) (hm : m + 255 ≤ 50000) (hk : 400000000 ≤ k) :
  Gx.Wp (ref09_DelJob k D sl n name h) (JobR F h sl (m + 255) ts (ansRL (askL n 4 name nob) ts).1 (if may n = true then codesD (codesY (ansRL (askL n 4 name nob) ts).2) else ⟨1, 0, [], []⟩)) := by
 simp only [ref09_DelJob]
 refine Gx.Wp.new fun H1 k1 n1 g1 => ?_
 refine Gx.Wp.bnd (bad_spec D _ H1) ?_
 by_cases c : may n = true
 ·rw [c, if_pos rfl]
  refine Gx.Wp.ifn (fun z => by cases z) (Gx.Wp.call (rAsk_spec (T.keeps k1) B (fun a ha => by have := sla a ha; omega) c 4 name hm hk) fun r7 q7 => ?_)
  obtain ⟨xs, c7, T7, Q7, l7⟩ := q7
  have n7 := c7.nx
  have ltT : ∀ y, TSet ts y → y < h.next := fun y z => TSet_lt T z
  have lx := Q7.say.1
  refine Gx.Wp.call (rCodes_spec (Q7.ac.row encP_len) (by omega) (by omega)) fun r8 q8 => ?_
  obtain ⟨k8, A8⟩ := q8
  rw [say_codes Q7.say] at A8
  have n8 := k8.nx
  generalize hys : (ansRL (askL n 4 name nob) ts).2 = ys at *
  have lc : (codesY ys).length ≤ 255 := by simpa [codesY] using l7
  refine Gx.Wp.new fun H9 k9 n9 g9 => ?_
  have B5 : Row encI H9 (⟨some ⟨r8.2.next, 0, some 0⟩, 1, 1⟩ : Slc) [5] := ⟨rfl, fun i x hx => by
   cases i with
   | zero => cases hx; exact ⟨⟨r8.2.next, 0, some 0⟩, _, _, _, _, rfl, by show r8.2.next < H9.next; omega, g9, rfl⟩
   | succ i => simp at hx⟩
  refine Gx.Wp.bnd (rfirst_spec (Row.keeps A8.row k9) B5 (by omega) (by omega) (by decide) (by show 1 < k; omega)) (Gx.Wp.bnd (rGood_spec (Row.keeps A8.row k9) (by omega) (by omega)) ?_)
  refine Gx.Wp.new fun H12 k12 n12 g12 => Gx.Wp.stL (sp := none) g12 rfl rfl rfl (by decide) fun H13 c13 n13 g13 => ?_
  have k12 : Keeps H9 H12 := k12
  have n12 : H12.next = H9.next + 1 := n12
  have c13 : Chg (· = H9.next) H12 H13 := c13
  have g13 : H13.get H9.next = some (.cells [.int .i64 (firstC [5] (codesY ys)), .string ⟨#[]⟩, .int .i64 (goodC (codesY ys)), .slice none 0 0, .slice none 0 0, .slice none 0 0, .slice none 0 0] 42 true 0) := g13
  have k13 : Keeps r7.2 H13 := Chg.beh (T := (· = H9.next)) ((k8.trans k9).trans k12) c13 fun y hy q => by omega
  have n13' := k13.nx
  refine Gx.Wp.jn fun j17 hj17 => Gx.Wp.jn fun j30 hj30 => ?_
  have cc : Chg (TSet ts) h H13 := ((Chg.keeps k1).trans c7).trans (Chg.keeps k13)
  have gb : H13.get h.next = _ := k13.got (by omega) (c7.got (by omega) (fun z => by have := ltT _ z; omega) g1)
  have fin : ∀ (cd : Int) (H : AHeap), Chg (· = H9.next) H13 H → H.get H9.next = some (.cells [.int .i64 cd, .string ⟨#[]⟩, .int .i64 (goodC (codesY ys)), .slice none 0 0, .slice none 0 0, .slice none 0 0, .slice none 0 0] 42 true 0) → cd = (codesD (codesY ys)).code →
    Gx.Wp (j17 (some ⟨h.next, 0, none⟩) (some ⟨H9.next, 0, none⟩) H) (JobR F h sl (m + 255) ts (ansRL (askL n 4 name nob) ts).1 (codesD (codesY ys))) := by
   intro cd H cH gH hcd
   have kH : Keeps r7.2 H := Chg.beh (T := (· = H9.next)) k13 cH fun y hy q => by omega
   have nH := cH.nx
   subst hj17
   refine Gx.Wp.bnd rfl (Gx.Wp.bnd (sldA_at gH rfl) (Gx.Wp.bnd rfl (Gx.Wp.bnd rfl ?_)))
   exact job_fin (b := h.next) (ids := nils) (texts := nils) (r := codesD (codesY ys)) (((Chg.keeps k1).trans c7).trans (Chg.keeps kH)) (Nat.le_refl _) (by omega) (kH.got (by omega) (c7.got (by omega) (fun z => by have := ltT _ z; omega) g1)) rfl (T7.keeps kH) (fun y z => ltT y ((TSet_ansRL y _ _).1 z)) sla (nilS' _) (fun a ha => by cases ha) (nilS' _) (fun a ha => by cases ha) hcd rfl
  refine Gx.Wp.bnd (sldI_at g13 rfl) ?_
  by_cases c0 : firstC [5] (codesY ys) = 0
  ·refine Gx.Wp.ifp (by simpa using c0) (Gx.Wp.bnd (sldI_at g13 rfl) ?_)
   subst hj30
   by_cases c1 : goodC (codesY ys) = 0
   ·refine Gx.Wp.ifp (by simpa using c1) (Gx.Wp.bnd rfl (Gx.Wp.st (sp := none) g13 (by show 0 < 7; omega) rfl fun H4 (c4 : Chg (· = H9.next) H13 H4) n4 g4 => fin 5 H4 c4 g4 ?_))
    simp [codesD, c0, c1]
   ·refine Gx.Wp.ifn (by simpa using c1) (fin _ H13 (Chg.refl _ _) g13 ?_)
    simp [codesD, c0, c1]
  ·refine Gx.Wp.ifn (by simpa using c0) ?_
   subst hj30
   exact Gx.Wp.ifn (fun z => by cases z) (fin _ H13 (Chg.refl _ _) g13 (by simp [codesD, c0]))
 ·have c' : may n = false := by simpa using c
  rw [if_neg c, c', askL_none c]
  exact Gx.Wp.ifp rfl (Gx.Wp.mono (job_bad (m := m + 255) k1 (Nat.le_refl _) (by dsimp only; omega) g1 rfl (T.wk (by omega)) sla) fun z hz => hz)
theorem rGetJob_spec (T : Rts F h sl m ts) (B : Bth ss ts) (sla : ∀ a, sl.a = some a → a.block < h.next) (n : Int) (name : ByteArray) (hm : m + 255 ≤ 50000) (hk : 400000000 ≤ k) :
  Gx.Wp (ref09_GetJob k D sl n name h) (JobR F h sl (m + 255) ts (ansRL (askL n 2 name nob) ts).1 (if may n = true then codesG (ansRL (askL n 2 name nob) ts).2 else ⟨1, 0, [], []⟩)) := by
 simp only [ref09_GetJob]
 refine Gx.Wp.new fun H1 k1 n1 g1 => ?_
 refine Gx.Wp.bnd (bad_spec D _ H1) ?_
 by_cases c : may n = true
 ·rw [c, if_pos rfl]
  refine Gx.Wp.ifn (fun z => by cases z) (Gx.Wp.call (rAsk_spec (T.keeps k1) B (fun a ha => by have := sla a ha; omega) c 2 name hm hk) fun r7 q7 => ?_)
  obtain ⟨xs, c7, T7, Q7, l7⟩ := q7
  have n7 := c7.nx
  have ltT : ∀ y, TSet ts y → y < h.next := fun y z => TSet_lt T z
  have lx := Q7.say.1
  have R7 := Q7.ac.row encP_len
  refine Gx.Wp.call (rCodes_spec R7 (by omega) (by omega)) fun r8 q8 => ?_
  obtain ⟨k8, A8⟩ := q8
  rw [say_codes Q7.say] at A8
  have lc : (codesY (ansRL (askL n 2 name nob) ts).2).length ≤ 255 := by simpa [codesY] using l7
  refine Gx.Wp.bnd (rfirst_spec A8.row (nilI _) (by omega) (by omega) (by decide) (by show 0 < k; omega)) ?_
  refine Gx.Wp.call (rCodes_spec (R7.keeps k8) (by omega) (by omega)) fun r10 q10 => ?_
  obtain ⟨k10, A10⟩ := q10
  rw [say_codes Q7.say] at A10
  refine Gx.Wp.bnd (rGood_spec A10.row (by omega) (by omega)) ?_
  have k7 : Keeps r7.2 r10.2 := k8.trans k10
  have n10 := k7.nx
  generalize hys : (ansRL (askL n 2 name nob) ts).2 = ys at *
  refine Gx.Wp.new fun H12 k12 n12 g12 => Gx.Wp.stL (sp := none) g12 rfl rfl rfl (by decide) fun H13 c13 n13 g13 => ?_
  obtain ⟨rb, erb⟩ : ∃ rb, rb = r10.2.next := ⟨_, rfl⟩
  have k12 : Keeps r10.2 H12 := k12
  have n12 : H12.next = rb + 1 := erb ▸ n12
  have c13 : Chg (· = rb) H12 H13 := erb ▸ c13
  have g13 : H13.get rb = some (.cells [.int .i64 (firstC [] (codesY ys)), .string ⟨#[]⟩, .int .i64 (goodC (codesY ys)), .slice none 0 0, .slice none 0 0, .slice none 0 0, .slice none 0 0] 42 true 0) := erb ▸ g13
  have k13 : Keeps r7.2 H13 := Chg.beh (T := (· = rb)) (k7.trans k12) c13 fun y hy q => by omega
  have n13' := k13.nx
  show Gx.Wp (joinK _ fun j17 => ref09_GetJob_l0 k D j17 (some ⟨h.next, 0, none⟩) r7.1 (some ⟨r10.2.next, 0, none⟩) 0 H13) _
  rw [← erb]
  refine Gx.Wp.jn fun j17 hj17 => ?_
  unfold ref09_GetJob_l0
  obtain ⟨bot, eb⟩ := iterK_of (fun _ _ _ _ _ => none) (ref09_GetJob_l0b k D j17) (show xs.length + 1 ≤ k by omega)
  rw [eb]
  have loop : ∀ (d i : Nat) (H : AHeap) (o : Slc), i + d = xs.length → Keeps r7.2 H → rb < H.next → H.get rb = some (.cells [.int .i64 (firstC [] (codesY ys)), .string ⟨#[]⟩, .int .i64 (goodC (codesY ys)), .slice none 0 0, .slice o.a o.len o.cap, .slice none 0 0, .slice none 0 0] 42 true 0) →
    Gx.Acc encS 9 (rb + 1) H o ((ys.take i).map (·.2.1)) →
    Gx.Wp (iterK bot (d + 1) (ref09_GetJob_l0b k D j17) (some ⟨h.next, 0, none⟩) r7.1 (some ⟨rb, 0, none⟩) (i : Int) H) (JobR F h sl (m + 255) ts (ansRL (askL n 2 name nob) ts).1 (codesG ys)) := fun d => by
   induction d with
   | zero =>
    intro i H o hd kH lr gH A
    obtain rfl : i = xs.length := by omega
    rw [List.take_of_length_le (by omega)] at A
    rw [iterK_s]; simp only [ref09_GetJob_l0b]
    subst hj17
    refine Gx.Wp.ifn (by rw [R7.len]; simp) (Gx.Wp.bnd rfl (Gx.Wp.bnd (sldA_at gH rfl) (Gx.Wp.bnd rfl (Gx.Wp.bnd rfl ?_))))
    exact job_fin (b := h.next) (ids := nils) (texts := o) (r := codesG ys) (((Chg.keeps k1).trans c7).trans (Chg.keeps kH)) (Nat.le_refl _) (by omega) (kH.got (by omega) (c7.got (by omega) (fun z => by have := ltT _ z; omega) g1)) rfl (T7.keeps kH) (fun y z => ltT y ((TSet_ansRL y _ _).1 z)) sla (nilS' _) (fun a ha => by cases ha) A.row (fun a ha => by have := A.lt a ha; omega) rfl rfl
   | succ d ih =>
    intro i H o hd kH lr gH A
    rw [iterK_s]; simp only [ref09_GetJob_l0b]
    obtain ⟨x, hx⟩ := isome (l := xs) (i := i) (by omega)
    obtain ⟨y, hy⟩ := isome (l := ys) (i := i) (by omega)
    obtain ⟨s1, s2, s3⟩ := Q7.say.2 i x y hx hy
    obtain ⟨q, q1, _, _, q2⟩ := rowP_ld (R7.keeps kH) hx
    refine Gx.Wp.ifp (by rw [R7.len]; simp; omega) (Gx.Wp.bnd q1 (Gx.Wp.bnd q2 (Gx.Wp.newE fun H6 e6 k6 n6 g6 => ?_)))
    have gr6 := k6.got lr gH
    refine Gx.Wp.bnd rfl (Gx.Wp.bnd (sldL_at gr6 rfl) (Gx.Wp.gp (ssw1 (bnd (sldL_at gH rfl) rfl)) ?_))
    obtain ⟨s', h9, a1, a2, A', c9, d9⟩ := Acc.pushK A encS_one x.2.1 (bytes := 16) e6 (by simp; omega) (by decide) (by omega)
    refine Gx.Wp.bnd a1 (Gx.Wp.bnd a2 ?_)
    have nr : ¬ ofS o rb := fun ⟨a, ha, q⟩ => by have := (A.lt a ha).2; omega
    have gr9 := c9.got (by omega) nr gH
    have n9 := c9.nx
    refine Gx.Wp.bnd rfl (Gx.Wp.st (sp := none) gr9 (by show 0 + 4 < 7; omega) rfl fun H7 (c7 : Chg (· = rb) h9 H7) n7 g7 => ?_)
    rw [Gx.w1 (by omega)]
    refine ih (i + 1) H7 s' (by omega) (Chg.beh (T := (· = rb)) (Chg.beh kH c9 fun y hy ⟨a, ha, q⟩ => by have := (A.lt a ha).2; omega) c7 fun y hy q => by omega) (by dsimp only at n7; omega) g7 ?_
    rw [show ys.take (i + 1) = ys.take i ++ [y] by rw [List.take_add_one, hy]; rfl, List.map_append]
    rw [s2] at A'
    exact A'.chg c7 fun a ha q => by have := (A'.lt a ha).2; omega
  exact loop xs.length 0 H13 nils (by omega) k13 (by omega) g13 (Acc.nil _ _ _ _)
 ·have c' : may n = false := by simpa using c
  rw [if_neg c, c', askL_none c]
  exact Gx.Wp.ifp rfl (Gx.Wp.mono (job_bad (m := m + 255) k1 (Nat.le_refl _) (by dsimp only; omega) g1 rfl (T.wk (by omega)) sla) fun z hz => hz)
end
end Gt
namespace Gt
open Go Gx
variable {F : Nat → Prop}
def markB : ByteArray := ⟨#[109, 97, 114, 107]⟩
section
variable {k : Nat} {D : CallF} {h : AHeap}
theorem Lend_spec {dl : Slc} {data : List ByteArray} (R : Row encS h dl data) (hl : data.length ≤ 1048576) :
  Gx.Wp (book_Lend k D dl h) fun z => ∃ b, z.1 = ⟨some ⟨b, 0, some 2⟩, data.length, data.length + 1⟩ ∧ Keeps h z.2 ∧ h.next ≤ b ∧ b < z.2.next ∧ z.2.get b = some (.cells ((data ++ [markB]).map encS) 9 true 0) := by
 simp only [book_Lend]
 refine Gx.Wp.new fun H1 k1 n1 g1 => Gx.Wp.bnd (Row.keeps R k1).rdS ?_
 obtain ⟨s7, h7, a7, A7, c7, d7⟩ := (empty0 (w := 1) (enc := encS1) (e := 9) (base := h.next) (h := H1) (b := h.next) (Nat.le_refl _) (by omega)).app encS1_len encS1_one data (bytes := 16) (by decide) (by simp; omega) (by omega)
 rw [flatS] at a7
 rw [show dl.len = data.length from R.1]
 refine Gx.Wp.bnd a7 (Gx.Wp.newE fun H2 e2 k2 n2 g2 => ?_)
 dsimp only at e2 k2 n2 g2 ⊢
 have n7 := c7.nx
 have rd : Gx.rdS 1 (⟨some ⟨h7.next, 0, some 0⟩, 1, 1⟩ : Slc) H2 = some (encS1 markB) := e2 ▸ rdS_oneW encS1_len markB 9
 refine Gx.Wp.bnd rd ?_
 obtain ⟨s9, h9, a9, A9, c9, d9⟩ := (A7.keeps k2).app encS1_len encS1_one [markB] (bytes := 16) (by decide) (by simp; omega) (by omega)
 have a9 : appendA 1 16 9 H2 s7 (encS1 markB) 1 = some (s9, h9) := by simpa using a9
 refine Gx.Wp.bnd a9 ?_
 rw [List.nil_append] at A9
 have n9 := c9.nx
 have k9 : Keeps h h9 := by
  refine Chg.beh (T := fun y => ofS s7 y) ((Chg.beh (T := fun y => ofS (⟨some ⟨h.next, 0, some 0⟩, 0, 0⟩ : Slc) y) k1 c7 fun y hy ⟨a, ha, q⟩ => by cases ha; dsimp only at q; omega).trans k2) c9 fun y hy ⟨a, ha, q⟩ => by have := (A7.lt a ha).2; omega
 rcases A9.st with ⟨_, _, e, _⟩ | ⟨b, e, gb, _⟩
 ·simp at e
 ·have lb := A9.lt ⟨b, 0, some 2⟩ (by rw [e])
  have le : (data ++ [markB]).length = data.length + 1 := by simp
  rw [e, le]
  have sub : Gx.subL 1 (⟨some ⟨b, 0, some (1 + 1)⟩, data.length + 1, data.length + 1⟩ : Slc) none (some (data.length : Int)) none = some ⟨some ⟨b, 0, some 2⟩, data.length, data.length + 1⟩ := by
   simp only [subL, Option.getD_none, Option.getD_some]
   rw [if_pos (by omega)]
   simp only [spOk]
   rw [if_neg (show ¬ ((data.length + 1 : Nat) : Int) = 0 by omega)]
   simp
  refine Gx.Wp.bnd sub (Gx.Wp.of ⟨b, rfl, k9, lb.2, lb.1, ?_⟩)
  rw [gb, flatS]
theorem own_row {b : Nat} {data : List ByteArray} {cap : Nat} (hb : b < h.next) (g : h.get b = some (.cells ((data ++ [markB]).map encS) 9 true 0)) : Row encS h (⟨some ⟨b, 0, some 2⟩, data.length, cap⟩ : Slc) data := by
 refine ⟨rfl, fun i x hx => ⟨⟨b, 0, some 2⟩, _, _, _, _, rfl, hb, g, ?_⟩⟩
 have hi := (List.getElem?_eq_some_iff.1 hx).1
 dsimp only
 rw [Nat.zero_add, List.getElem?_map, List.getElem?_append_left hi, hx]; rfl
theorem Kept_spec {dl : Slc} {data : List ByteArray} {b : Nat} (R : Row encS h dl data) (hl : data.length ≤ 1048576) (hb : b < h.next) (g : h.get b = some (.cells ((data ++ [markB]).map encS) 9 true 0)) (hk : 400000000 ≤ k) :
  book_Kept k D (⟨some ⟨b, 0, some 2⟩, data.length, data.length + 1⟩ : Slc) dl h = some (true, h) := by
 simp only [book_Kept]
 refine bnd (sameS_spec D (own_row hb g) R (by omega) (by omega)) (ifp rfl ?_)
 rw [R.1, Gx.w1 (by omega)]
 have sub : Gx.subL 1 (⟨some ⟨b, 0, some 2⟩, data.length, data.length + 1⟩ : Slc) none (some ((data.length + 1 : Nat) : Int)) none = some ⟨some ⟨b, 0, some 2⟩, data.length + 1, data.length + 1⟩ := by
  simp only [subL, Option.getD_none, Option.getD_some]
  rw [if_pos (by omega)]
  simp only [spOk]
  rw [if_neg (show ¬ ((data.length + 1 : Nat) : Int) = 0 by omega)]
  simp
 refine bnd sub ?_
 have ix : Gx.idxL 1 (⟨some ⟨b, 0, some 2⟩, data.length + 1, data.length + 1⟩ : Slc) (data.length : Int) = some ⟨b, data.length, none⟩ := by
  simp only [idxL]
  rw [if_pos (by omega)]
  simp
 refine bnd ix (bnd (ldS_at (m := markB) g ?_) ?_)
 ·rw [List.getElem?_map, List.getElem?_append_right (Nat.le_refl _), Nat.sub_self]; rfl
 ·show some ((markB == (⟨#[109, 97, 114, 107]⟩ : ByteArray)), h) = _
  rw [ba_beq, decide_eq_true (by rfl)]
theorem Spoil_spec {b n : Nat} {c : List Value} (hc : c.length = n + 1) (hn : n ≤ 1048576) (g : h.get b = some (.cells c 9 true 0)) (hk : 400000000 ≤ k) :
  Gx.Wp (book_SpoilTexts k D (⟨some ⟨b, 0, some 2⟩, n, n + 1⟩ : Slc) h) fun q => Chg (· = b) h q.2 := by
 simp only [book_SpoilTexts]
 unfold book_SpoilTexts_l0
 obtain ⟨bot, eb⟩ := iterK_of (fun _ _ _ => none) (book_SpoilTexts_l0b k D) (show n + 1 ≤ k by omega)
 rw [eb]
 have loop : ∀ (d i : Nat) (H : AHeap) (c : List Value), i + d = n → c.length = n + 1 → H.get b = some (.cells c 9 true 0) → Chg (· = b) h H → Gx.Wp (iterK bot (d + 1) (book_SpoilTexts_l0b k D) (⟨some ⟨b, 0, some 2⟩, n, n + 1⟩ : Slc) (i : Int) H) fun q => Chg (· = b) h q.2 := fun d => by
  induction d with
  | zero =>
   intro i H c hi hc hb kp
   rw [iterK_s]; simp only [book_SpoilTexts_l0b]
   exact Gx.Wp.ifn (by simp; omega) (Gx.Wp.of kp)
  | succ d ih =>
   intro i H c hi hc hb kp
   rw [iterK_s]; simp only [book_SpoilTexts_l0b]
   have ix : Gx.idxL 1 (⟨some ⟨b, 0, some 2⟩, n, n + 1⟩ : Slc) (i : Int) = some ⟨b, i, none⟩ := by
    simp only [idxL]
    rw [if_pos (by omega)]
    simp
   refine Gx.Wp.ifp (by simp; omega) (Gx.Wp.bnd ix (Gx.Wp.bnd (st1_sb hb (by omega) rfl) ?_))
   rw [Gx.w1 (by omega)]
   exact ih (i + 1) _ (c.set i (.string spoilt)) (by omega) (by simp [hc]) (sset_get _ _ _) (kp.trans (Chg.set (.inr rfl)))
 exact loop n 0 h c (by omega) hc g (Chg.refl _ _)
theorem same_spec {a b : ResT} {r : Rz} (A : ResOk h r a) (B : ResOk h r b) (h1 : r.ids.length < 400000000) (h2 : r.texts.length < 400000000) (hk : 400000000 ≤ k) : Gx.Wp (law09_same k D a b h) fun z => z.1 = true ∧ Keeps h z.2 := by
 obtain ⟨a1, a2, a3, a4, a5, a6, a7⟩ := A
 obtain ⟨b1, b2, b3, b4, b5, b6, b7⟩ := B
 simp only [law09_same]
 refine Gx.Wp.new fun H1 k1 n1 g1 => Gx.Wp.new fun H2 k2 n2 g2 => ?_
 have g1' := k2.got (by omega) g1
 have kk : Keeps h H2 := k1.trans k2
 refine Gx.Wp.bnd (sldI_at g1' rfl) (Gx.Wp.bnd (sldI_at g2 rfl) (Gx.Wp.ifp (by rw [a1, b1]; simp) (Gx.Wp.bnd (ldS_at g1' rfl) (Gx.Wp.bnd (ldS_at g2 rfl) (Gx.Wp.ifp (by rw [a2, b2, ba_beq]; simp) (Gx.Wp.bnd (sldI_at g1' rfl) (Gx.Wp.bnd (sldI_at g2 rfl) (Gx.Wp.ifp (by rw [a3, b3]; simp) ?_))))))))
 refine Gx.Wp.bnd (sldL_at g1' rfl) (Gx.Wp.bnd (sldL_at g2 rfl) (Gx.Wp.bnd (sameS_spec D (a := ⟨a.2.2.2.1.a, a.2.2.2.1.len, a.2.2.2.1.cap⟩) (b := ⟨b.2.2.2.1.a, b.2.2.2.1.len, b.2.2.2.1.cap⟩) (Row.keeps a4 kk) (Row.keeps b4 kk) (by omega) (by omega)) (Gx.Wp.ifp rfl ?_)))
 refine Gx.Wp.bnd (sldL_at g1' rfl) (Gx.Wp.bnd (sldL_at g2 rfl) (Gx.Wp.bnd (sameS_spec D (a := ⟨a.2.2.2.2.1.a, a.2.2.2.2.1.len, a.2.2.2.2.1.cap⟩) (b := ⟨b.2.2.2.2.1.a, b.2.2.2.2.1.len, b.2.2.2.2.1.cap⟩) (Row.keeps a5 kk) (Row.keeps b5 kk) (by omega) (by omega)) (Gx.Wp.ifp rfl ?_)))
 refine Gx.Wp.bnd (sldL_at g1' rfl) (Gx.Wp.bnd (sldL_at g2 rfl) (Gx.Wp.ifp (by rw [a6, b6]; rfl) (Gx.Wp.bnd (sldL_at g1' rfl) (Gx.Wp.bnd (sldL_at g2 rfl) (Gx.Wp.of ⟨?_, kk⟩)))))
 dsimp only
 rw [a7, b7]; rfl
end
theorem RR.apartG {S : Nat → Prop} {h h' : AHeap} {tb : Nat} {r : RSt} (R : RR F h tb r) (c : Chg S h h') (hS : ∀ y, S y → y ≠ tb ∧ ∀ s c e rw fz, h.get y ≠ some (.cells (.string s :: c) e rw fz)) : RR F h' tb r := by
 obtain ⟨e, l, hb, A⟩ := R.blk
 refine ⟨⟨e, l, (c.oth _ R.lt fun q => (hS _ q).1 rfl).trans hb, A.st.imp id ?_, fun a ha => ⟨Nat.lt_of_lt_of_le (A.lt a ha).1 c.nx, (A.lt a ha).2⟩⟩, Nat.lt_of_lt_of_le R.lt c.nx, fun v1 v2 v3 v4 a n cc e rw fz g => R.fl v1 v2 v3 v4 a n cc e rw fz ((c.oth _ R.lt fun q => (hS _ q).1 rfl).symm.trans g), fun y hy => R.up y (Nat.le_trans c.nx hy)⟩
 rintro ⟨b, h1, h2, h3⟩
 refine ⟨b, h1, (c.oth b (A.lt ⟨b, 0, some (2 + 1)⟩ (by rw [h1])).1 fun q => ?_).trans h2, h3⟩
 obtain ⟨_, g⟩ := hS b q
 cases hL : r.L with
 | nil => exact h3 hL
 | cons o L => rw [hL] at h2; exact g _ _ _ _ _ h2
theorem Rts.apartG {S : Nat → Prop} {h h' : AHeap} {sl : Slc} {m : Nat} {ts : List Tb} (T : Rts F h sl m ts) (c : Chg S h h') (hS : ∀ y, S y → ¬ TSet ts y ∧ ∀ s c e rw fz, h.get y ≠ some (.cells (.string s :: c) e rw fz)) (ha : ∀ a, sl.a = some a → ¬ S a.block) : Rts F h' sl m ts :=
 ⟨Row.chg T.rd c ha, T.fr, fun i t hi => ⟨(T.st i t hi).1.apartG c fun y hy => ⟨fun e => (hS y hy).1 ⟨t, mem_of hi, e⟩, (hS y hy).2⟩, (T.st i t hi).2⟩, T.ap⟩
theorem SSet_noS {h : AHeap} {sl : Slc} {m : Nat} {ss : List Sb} (T : Sts h sl m ss) {y : Nat} (z : SSet ss y) : ∀ s c e rw fz, h.get y ≠ some (.cells (.string s :: c) e rw fz) := by
 intro s c e rw fz q
 obtain ⟨t, ht, z⟩ := z
 obtain ⟨i, hi⟩ := List.getElem?_of_mem ht
 obtain ⟨b1, _⟩ := T.st i t hi
 rcases z with rfl | rfl
 ·obtain ⟨e', g⟩ := b1.blk
  rw [g] at q; simp at q
 ·rw [b1.mp] at q; cases q
end Gt
namespace Gt
open Go Gx
theorem run9F {L : Nat → CallF} {k n N jb : Nat} (hn : N ≤ n) {sl : Slc} {p p' : Prg} {ss ss' : List Sb} {s m st : Nat} {O : Nat → Prop} {h : AHeap} (R : RunR k 300 p ss p' ss' s) (J : JobP L N jb p st O h) (T : Sts h sl m ss) (lts : ∀ y, SSet ss y → y < h.next ∧ ¬ JSet O jb y) (hsl : ∀ a, sl.a = some a → a.block < h.next ∧ ¬ JSet O jb a.block)
  (hm : m + s ≤ 100000) (hk : m + s < k) (hss : st + s ≤ 1048576) (l1 : p'.res.ids.length ≤ 1099511627776) (l2 : p'.res.texts.length ≤ 1099511627776) :
  Gx.Wp (law09_run k (L n) (some ⟨jb, 0, none⟩) sl h) fun z => ∃ O', z.1.2 = p'.over ∧ ResOk z.2 p'.res z.1.1 ∧ JobP L N jb p' (st + s) O' z.2 ∧ (∀ y, O' y → O y ∨ h.next ≤ y) ∧ (∀ y, SSet ss' y ↔ SSet ss y) ∧ Sts z.2 sl (m + s) ss' ∧ Chg (fun y => SSet ss y ∨ O y) h z.2 ∧ (∀ a, z.1.1.2.2.2.1.a = some a → h.next ≤ a.block) ∧ ∀ a, z.1.1.2.2.2.2.1.a = some a → h.next ≤ a.block := by
 simp only [law09_run]
 refine Gx.Wp.new fun H1 k1 n1 g1 => Gx.Wp.ifn (fun z => by cases z) ?_
 have jl := J.lj
 have ol := J.lt
 refine Gx.Wp.call (Run_P (L := L) hn R (J.chg k1 fun _ _ f => f) (T.keeps k1) (fun y hy => ⟨by have := (lts y hy).1; omega, (lts y hy).2⟩) (fun a ha => ⟨by have := (hsl a ha).1; omega, (hsl a ha).2⟩) hm hk hss) fun r5 q5 => ?_
 obtain ⟨O', v, J5, sub, far, sset, T5, c5⟩ := q5
 have n5 := c5.nx
 refine Gx.Wp.call (Result_F (L n) J5 l1 l2) fun r6 q6 => ?_
 obtain ⟨⟨k6, o6⟩, fa, fb⟩ := q6
 have nin : ¬ (SSet ss h.next ∨ O h.next) := fun z => z.elim (fun z => by have := (lts _ z).1; omega) fun z => by have := ol _ z; omega
 have g6 := k6.got (by omega) (c5.got (by omega) nin g1)
 have n6 := k6.nx
 refine Gx.Wp.stL (sp := none) g6 rfl rfl rfl (by decide) fun H7 c7 n7 g7 => Gx.Wp.bnd (sldA_at g7 rfl) (Gx.Wp.bnd rfl (Gx.Wp.of ?_))
 have nO : ¬ O' h.next := fun z => (far _ z).elim (fun z => by have := ol _ z; omega) fun z => by omega
 have cA : Chg (fun y => SSet ss y ∨ O y) h H7 := Chg.beh (T := (· = h.next)) ((Chg.keeps k1).trans (c5.trans (Chg.keeps k6))) c7 fun y hy q => by omega
 refine ⟨O', ?_, ?_, (J5.chg k6 fun _ _ f => f).chg c7 (fun y hy q => ?_), fun y o => (far y o).imp id fun q => by omega, sset, (T5.keeps k6).chg c7 (fun y hy q => ?_) (fun a ha q => ?_), cA, fun a ha => by have := fa a ha; omega, fun a ha => by have := fb a ha; omega⟩
 ·dsimp only
  rw [v]
  cases p'.over <;> rfl
 ·obtain ⟨o1, o2, o3, o4, o5, o6', o7⟩ := o6
  exact ⟨o1, o2, o3, Row.chg o4 c7 fun a ha q => by have := fa a ha; omega, Row.chg o5 c7 fun a ha q => by have := fb a ha; omega, o6', o7⟩
 ·rcases hy with hy | hy
  ·exact nO (q ▸ hy)
  ·omega
 ·have := (lts y ((sset y).1 hy)).1; omega
 ·have := (hsl a ha).1; omega
theorem RR.any {F : Nat → Prop} {h : AHeap} {tb : Nat} {r : RSt} (R : RR F h tb r) : RR (fun _ => True) h tb r := ⟨R.blk, R.lt, fun _ _ _ _ _ _ _ _ _ _ _ => trivial, fun _ _ => trivial⟩
theorem Rts.any {F : Nat → Prop} {h : AHeap} {sl : Slc} {m : Nat} {ts : List Tb} (T : Rts F h sl m ts) : Rts (fun _ => True) h sl m ts := ⟨T.rd, T.fr, fun i t hi => ⟨(T.st i t hi).1.any, (T.st i t hi).2⟩, T.ap⟩
def Out (a b : Nat) (y : Nat) : Prop := y < a ∨ b ≤ y
theorem RR.out {F : Nat → Prop} {h H : AHeap} {tb : Nat} {r : RSt} (R : RR F h tb r) (c : Keeps h H) {b : Nat} (hb : b ≤ H.next) : RR (Out h.next b) H tb r := by
 obtain ⟨e, l, hb', A⟩ := R.blk
 have g := c.got R.lt hb'
 exact RR.make (l := l) g (A.keeps c) (Nat.lt_of_lt_of_le R.lt c.nx) (fun a ha => .inl (A.lt a ha).1) fun y hy => .inr (Nat.le_trans hb hy)
theorem Rts.out {F : Nat → Prop} {h H : AHeap} {sl : Slc} {m : Nat} {ts : List Tb} (T : Rts F h sl m ts) (c : Keeps h H) {b : Nat} (hb : b ≤ H.next) : Rts (Out h.next b) H sl m ts := ⟨Row.keeps T.rd c, T.fr, fun i t hi => ⟨(T.st i t hi).1.out c hb, (T.st i t hi).2⟩, T.ap⟩
theorem RR.apartF {S : Nat → Prop} {F : Nat → Prop} {h h' : AHeap} {tb : Nat} {r : RSt} (R : RR F h tb r) (c : Chg S h h') (hS : ∀ y, S y → y ≠ tb ∧ (¬ F y ∨ ∀ s c e rw fz, h.get y ≠ some (.cells (.string s :: c) e rw fz))) : RR F h' tb r := by
 obtain ⟨e, l, hb, A⟩ := R.blk
 have hf := R.flOf hb
 refine RR.make (l := l) ((c.oth _ R.lt fun q => (hS _ q).1 rfl).trans hb) ⟨A.st.imp id ?_, fun a ha => ⟨Nat.lt_of_lt_of_le (A.lt a ha).1 c.nx, (A.lt a ha).2⟩⟩ (Nat.lt_of_lt_of_le R.lt c.nx) hf fun y hy => R.up y (Nat.le_trans c.nx hy)
 rintro ⟨b, h1, h2, h3⟩
 refine ⟨b, h1, (c.oth b (A.lt ⟨b, 0, some (2 + 1)⟩ (by rw [h1])).1 fun q => ?_).trans h2, h3⟩
 rcases (hS b q).2 with g | g
 ·exact g (hf ⟨b, 0, some (2 + 1)⟩ (by rw [h1]))
 ·cases hL : r.L with
  | nil => exact h3 hL
  | cons o L => rw [hL] at h2; exact g _ _ _ _ _ h2
theorem Rts.apartF {S : Nat → Prop} {F : Nat → Prop} {h h' : AHeap} {sl : Slc} {m : Nat} {ts : List Tb} (T : Rts F h sl m ts) (c : Chg S h h') (hS : ∀ y, S y → ¬ TSet ts y ∧ (¬ F y ∨ ∀ s c e rw fz, h.get y ≠ some (.cells (.string s :: c) e rw fz))) (ha : ∀ a, sl.a = some a → ¬ S a.block) : Rts F h' sl m ts :=
 ⟨Row.chg T.rd c ha, T.fr, fun i t hi => ⟨(T.st i t hi).1.apartF c fun y hy => ⟨fun e => (hS y hy).1 ⟨t, mem_of hi, e⟩, (hS y hy).2⟩, (T.st i t hi).2⟩, T.ap⟩
structure P9 (h0 : AHeap) (top : Nat) (h : AHeap) (s r : Slc) (m : Nat) (ss : List Sb) (ts : List Tb) : Prop where
 S : Sts h s m ss
 R : Rts (fun _ => True) h r m ts
 B : Bth ss ts
 ge : top ≤ h.next
 sl : ∀ a, s.a = some a → a.block < top ∧ ¬ SSet ss a.block ∧ ¬ TSet ts a.block
 rl : ∀ a, r.a = some a → a.block < top ∧ ¬ SSet ss a.block ∧ ¬ TSet ts a.block
 sset : ∀ y, SSet ss y → h0.next ≤ y ∧ y < top
 tset : ∀ y, TSet ts y → h0.next ≤ y ∧ y < top
 ap : ∀ y, SSet ss y → ¬ TSet ts y
 keep : Keeps h0 h
section
variable {k m top : Nat} {h0 h : AHeap} {s r : Slc} {ss : List Sb} {ts : List Tb}
theorem Sts.wk {h : AHeap} {sl : Slc} {m m' : Nat} {ss : List Sb} (T : Sts h sl m ss) (le : m ≤ m') : Sts h sl m' ss := ⟨T.rd, T.fr, fun i t hi => ⟨(T.st i t hi).1, (T.st i t hi).2.mono le⟩, T.ap⟩
theorem runP {n0 : Int} {qs : List Rq} {K : List Ry → Rz} (hq : may n0 = false → qs = []) (hl : qs.length ≤ 255) (hn : ∀ q ∈ qs, NameOk k q) : RunR k 300 (fanP n0 (askAll qs [] fun ys => finP (K ys))) ss (finP (if may n0 = true then K (ansL qs ss).2 else ⟨1, 0, [], []⟩)) (ansL qs ss).1 qs.length := by
 by_cases c : may n0 = true
 ·rw [if_pos c]
  unfold fanP
  rw [if_pos c]
  have w := run_all (k := k) (K := fun ys => finP (K ys)) (most := 300 - qs.length) (qs := qs) (acc := []) (ss := ss) (p' := finP (K (ansL qs ss).2)) (ss' := (ansL qs ss).1) (s := 0) hn RunR.over
  rw [Nat.zero_add, Nat.sub_add_cancel (by omega)] at w
  exact w
 ·have c' : may n0 = false := by simpa using c
  rw [if_neg c, hq c']
  unfold fanP
  rw [if_neg c]
  exact RunR.over
theorem tail9 {H : AHeap} {jb w st lo hi : Nat} {p : Prg} {O : Nat → Prop} {rz : Rz} {ss' : List Sb} {ts' : List Tb} {wv : ResT} {F : Nat → Prop}
  (G : P9 h0 top h s r m ss ts) (S : Sts H s m ss) (R : Rts F H r (m + 255) ts') (B : Bth ss' ts') (cH : Chg (fun y => TSet ts y) h H) (J : JobP (lvl k) 5 jb p 0 O H) (fO : ∀ y, JSet O jb y → lo ≤ y ∧ y < hi) (Flo : ∀ y, F y → y < lo ∨ hi ≤ y) (_llo : h.next ≤ lo) (hhi : hi ≤ H.next)
  (hw : H.get w = some (.cells [.int .i64 wv.1, .string wv.2.1, .int .i64 wv.2.2.1, .slice wv.2.2.2.1.a wv.2.2.2.1.len wv.2.2.2.1.cap, .slice wv.2.2.2.2.1.a wv.2.2.2.2.1.len wv.2.2.2.2.1.cap, .slice wv.2.2.2.2.2.1.a wv.2.2.2.2.2.1.len wv.2.2.2.2.2.1.cap, .slice wv.2.2.2.2.2.2.a wv.2.2.2.2.2.2.len wv.2.2.2.2.2.2.cap] 42 true 0)) (w1 : h.next ≤ w) (w2 : w < lo)
  (rk : ResOk H rz wv) (a1 : ∀ a, wv.2.2.2.1.a = some a → hi ≤ a.block) (a2 : ∀ a, wv.2.2.2.2.1.a = some a → hi ≤ a.block) (RU : RunR k 300 p ss (finP rz) ss' st) (sS : ∀ y, SSet ss' y ↔ SSet ss y) (sT : ∀ y, TSet ts' y ↔ TSet ts y) (hm : m + 255 ≤ 50000) (hst : st ≤ 255) (hk : 400000000 ≤ k)
  (l1 : rz.ids.length < 400000000) (l2 : rz.texts.length < 400000000) :
  Gx.Wp ((law09_run k (lvl k 60) (some ⟨jb, 0, none⟩) s H).bind fun r8 => newK r8.2 (.cells [.int .i64 0, .string ⟨#[]⟩, .int .i64 0, .slice none 0 0, .slice none 0 0, .slice none 0 0, .slice none 0 0] 42 true 0) fun h9 =>
   (stL 7 (⟨r8.2.next, 0, none⟩ : Addr) [.int .i64 r8.1.1.1, .string r8.1.1.2.1, .int .i64 r8.1.1.2.2.1, .slice r8.1.1.2.2.2.1.a r8.1.1.2.2.2.1.len r8.1.1.2.2.2.1.cap, .slice r8.1.1.2.2.2.2.1.a r8.1.1.2.2.2.2.1.len r8.1.1.2.2.2.2.1.cap, .slice r8.1.1.2.2.2.2.2.1.a r8.1.1.2.2.2.2.2.1.len r8.1.1.2.2.2.2.2.1.cap, .slice r8.1.1.2.2.2.2.2.2.a r8.1.1.2.2.2.2.2.2.len r8.1.1.2.2.2.2.2.2.cap] h9).bind fun h10 =>
   (if r8.1.2 = true then (ldA 7 (⟨r8.2.next, 0, none⟩ : Addr) h10).bind fun l11 => (decC [.i .i64, .s, .i .i64, .l, .l, .l, .l] l11).bind fun x12 => (some (⟨w, 0, none⟩ : Addr)).bind fun p13 => (ldA 7 p13 h10).bind fun l14 => (decC [.i .i64, .s, .i .i64, .l, .l, .l, .l] l14).bind fun x15 =>
    (law09_same k (lvl k 60) (x12.1, x12.2.1, x12.2.2.1, x12.2.2.2.1, x12.2.2.2.2.1, x12.2.2.2.2.2.1, x12.2.2.2.2.2.2) (x15.1, x15.2.1, x15.2.2.1, x15.2.2.2.1, x15.2.2.2.2.1, x15.2.2.2.2.2.1, x15.2.2.2.2.2.2) h10).bind fun r16 => some (r16.1, r16.2)
   else some (false, h10))) fun z => z.1 = true ∧ P9 h0 top z.2 s r (m + 255) ss' ts' := by
 have jO : ∀ y, O y → lo ≤ y ∧ y < hi := fun y z => fO y (.inl z)
 have jl := fO jb (.inr rfl)
 have ge := G.ge
 refine Gx.Wp.call (run9F (L := lvl k) (N := 5) (n := 60) (by decide) RU J S (fun y hy => ?_) (fun a ha => ?_) (by omega) (by omega) (by omega) (by show rz.ids.length ≤ _; omega) (by show rz.texts.length ≤ _; omega)) fun r2 q2 => ?_
 ·have := G.sset y hy
  exact ⟨by have := cH.nx; omega, fun z => by have := fO y z; omega⟩
 ·have := G.sl a ha
  exact ⟨by have := cH.nx; omega, fun z => by have := fO _ z; omega⟩
 obtain ⟨O', v, rk2, J2, _, sset, T2, c2, f1, f2⟩ := q2
 have nH := cH.nx
 have n2 := c2.nx
 have v : r2.1.2 = true := v
 have rk2 : ResOk r2.2 rz r2.1.1 := rk2
 have w3 : ¬ (SSet ss w ∨ O w) := fun z => z.elim (fun z => by have := G.sset w z; omega) fun z => by have := jO w z; omega
 refine Gx.Wp.new fun H3 k3 n3 g3 => Gx.Wp.stL (sp := none) g3 rfl rfl rfl (by decide) fun H4 c4 n4 g4 => ?_
 have k4 : Keeps r2.2 H4 := Chg.beh (T := (· = r2.2.next)) k3 c4 fun y hy q => by omega
 have hw4 := k4.got (by omega) (c2.got (by omega) w3 hw)
 refine Gx.Wp.ifp v (Gx.Wp.bnd (sldA_at g4 rfl) (Gx.Wp.bnd rfl (Gx.Wp.bnd rfl (Gx.Wp.bnd (sldA_at hw4 rfl) (Gx.Wp.bnd rfl ?_)))))
 obtain ⟨q1, q2, q3, q4, q5, q6, q7⟩ := rk
 have rkw : ResOk H4 rz wv := by
  refine ⟨q1, q2, q3, Row.keeps (Row.chg q4 c2 fun a ha z => ?_) k4, Row.keeps (Row.chg q5 c2 fun a ha z => ?_) k4, q6, q7⟩
  ·have := a1 a ha
   rcases z with z | z
   ·have := G.sset _ z; omega
   ·have := jO _ z; omega
  ·have := a2 a ha
   rcases z with z | z
   ·have := G.sset _ z; omega
   ·have := jO _ z; omega
 refine Gx.Wp.call (same_spec (rk2.keeps k4) rkw l1 l2 hk) fun r5 q5 => Gx.Wp.of ?_
 obtain ⟨e5, k5⟩ := q5
 have k45 : Keeps r2.2 r5.2 := k4.trans k5
 have n5 := k45.nx
 have rT : Rts F r2.2 r (m + 255) ts' := R.apartF c2 (fun y hy => ?_) fun a ha z => ?_
 ·refine ⟨e5, (T2.keeps k45).wk (by omega), (rT.keeps k45).any, B, by dsimp only; omega, fun a ha => ?_, fun a ha => ?_, fun y hy => G.sset y ((sS y).1 hy), fun y hy => G.tset y ((sT y).1 hy), fun y h1 h2 => G.ap y ((sS y).1 h1) ((sT y).1 h2), ?_⟩
  ·have := G.sl a ha
   exact ⟨this.1, fun z => this.2.1 ((sS _).1 z), fun z => this.2.2 ((sT _).1 z)⟩
  ·have := G.rl a ha
   exact ⟨this.1, fun z => this.2.1 ((sS _).1 z), fun z => this.2.2 ((sT _).1 z)⟩
  ·refine ⟨by have := G.keep.nx; dsimp only; omega, fun x hx _ => ?_⟩
   have nk := G.keep.nx
   have e1 := k45.oth x (by omega) fun f => f
   have e2 := c2.oth x (by omega) fun z => z.elim (fun z => by have := G.sset x z; omega) fun z => by have := jO x z; omega
   have e3 := cH.oth x (by omega) fun z => by have := G.tset x z; omega
   exact e1.trans (e2.trans (e3.trans (G.keep.oth x hx fun f => f)))
 ·rcases hy with hy | hy
  ·exact ⟨fun z => G.ap y hy ((sT y).1 z), .inr (SSet_noS S hy)⟩
  ·have := jO y hy
   exact ⟨fun z => by have := G.tset y ((sT y).1 z); omega, .inl fun z => by have := Flo y z; omega⟩
 ·have := G.rl a ha
  rcases z with z | z
  ·exact this.2.1 z
  ·have := jO _ z; omega
end
end Gt
namespace Gt
open Go Gx
theorem ansR_grow {ts : List Tb} {m : Nat} (h : ∀ t ∈ ts, t.2.L.length ≤ m) (q : Rq) : ∀ t ∈ (ansR ts q).1, t.2.L.length ≤ m + 1 := by
 unfold ansR
 split
 ·exact fun t ht => Nat.le_succ_of_le (h t ht)
 ·split
  ·exact fun t ht => Nat.le_succ_of_le (h t ht)
  ·rename_i s hs
   intro t ht
   rcases List.mem_or_eq_of_mem_set ht with ht | rfl
   ·exact Nat.le_succ_of_le (h t ht)
   ·have := (rdo_len s.2 q.2.1 q.2.2.1 q.2.2.2).1
    have := h s (mem_of hs)
    dsimp only; omega
theorem ansRL_names : ∀ {qs : List Rq} {ts : List Tb} {m : Nat}, (∀ t ∈ ts, t.2.L.length ≤ m) → m + qs.length ≤ 1048576 → ∀ y ∈ (ansRL qs ts).2, y.2.2.length ≤ 1048576
 | [], _, _, _, _, y, hy => by simp [ansRL] at hy
 | q :: qs, ts, m, h, hm, y, hy => by
  simp only [ansRL, List.mem_cons] at hy
  simp only [List.length_cons] at hm
  rcases hy with rfl | hy
  ·have := ansR_names h q; omega
  ·exact ansRL_names (qs := qs) (m := m + 1) (ansR_grow h q) (by omega) y hy
theorem namesA_len : ∀ (ys : List Ry) (ks : List ByteArray), (∀ y ∈ ys, y.2.2.length ≤ 1048576) → (namesA ys ks).length ≤ ks.length + ys.length * 1048576
 | [], _, _ => by simp [namesA]
 | y :: ys, ks, h => by
  have h1 := namesA_len ys (uni y.2.2 ks) fun z hz => h z (List.mem_cons_of_mem _ hz)
  have h2 := uni_len y.2.2 ks
  have h3 := h y (by simp)
  simp only [namesA, List.length_cons]; omega
theorem namesY_len {ys : List Ry} (h : ∀ y ∈ ys, y.2.2.length ≤ 1048576) (hl : ys.length ≤ 255) : (namesY ys).length < 400000000 := by
 unfold namesY
 rw [nmK_len]
 have := namesA_len ys [] h
 simp only [List.length_nil] at this; omega
noncomputable def tailE (k : Nat) (s : Slc) (jb w : Nat) (H : AHeap) : Option (Bool × AHeap) :=
 (law09_run k (lvl k 60) (some ⟨jb, 0, none⟩) s H).bind fun r8 => newK r8.2 (.cells [.int .i64 0, .string ⟨#[]⟩, .int .i64 0, .slice none 0 0, .slice none 0 0, .slice none 0 0, .slice none 0 0] 42 true 0) fun h9 =>
   (stL 7 (⟨r8.2.next, 0, none⟩ : Addr) [.int .i64 r8.1.1.1, .string r8.1.1.2.1, .int .i64 r8.1.1.2.2.1, .slice r8.1.1.2.2.2.1.a r8.1.1.2.2.2.1.len r8.1.1.2.2.2.1.cap, .slice r8.1.1.2.2.2.2.1.a r8.1.1.2.2.2.2.1.len r8.1.1.2.2.2.2.1.cap, .slice r8.1.1.2.2.2.2.2.1.a r8.1.1.2.2.2.2.2.1.len r8.1.1.2.2.2.2.2.1.cap, .slice r8.1.1.2.2.2.2.2.2.a r8.1.1.2.2.2.2.2.2.len r8.1.1.2.2.2.2.2.2.cap] h9).bind fun h10 =>
   (if r8.1.2 = true then (ldA 7 (⟨r8.2.next, 0, none⟩ : Addr) h10).bind fun l11 => (decC [.i .i64, .s, .i .i64, .l, .l, .l, .l] l11).bind fun x12 => (some (⟨w, 0, none⟩ : Addr)).bind fun p13 => (ldA 7 p13 h10).bind fun l14 => (decC [.i .i64, .s, .i .i64, .l, .l, .l, .l] l14).bind fun x15 =>
    (law09_same k (lvl k 60) (x12.1, x12.2.1, x12.2.2.1, x12.2.2.2.1, x12.2.2.2.2.1, x12.2.2.2.2.2.1, x12.2.2.2.2.2.2) (x15.1, x15.2.1, x15.2.2.1, x15.2.2.2.1, x15.2.2.2.2.1, x15.2.2.2.2.2.1, x15.2.2.2.2.2.2) h10).bind fun r16 => some (r16.1, r16.2)
   else some (false, h10))
section
variable {k m top : Nat} {h0 h : AHeap} {s r : Slc} {ss : List Sb} {ts : List Tb}
theorem mid9 {H6 : AHeap} {jb w st lo : Nat} {p : Prg} {O : Nat → Prop} {rz : Rz} {ss' : List Sb} {ts' : List Tb} {ref : AHeap → Option (ResT × AHeap)} {j7 : Slc → Option Addr → Option Addr → AHeap → Option (Bool × AHeap)}
  (G : P9 h0 top h s r m ss ts) (kH : Keeps h H6) (J : JobP (lvl k) 5 jb p 0 O H6) (fO : ∀ y, JSet O jb y → lo ≤ y) (llo : h.next ≤ lo) (hw : H6.get w = some (.cells [.int .i64 0, .string ⟨#[]⟩, .int .i64 0, .slice none 0 0, .slice none 0 0, .slice none 0 0, .slice none 0 0] 42 true 0)) (w1 : h.next ≤ w) (w2 : w < lo)
  (Wr : Gx.Wp (ref H6) (JobR (Out h.next H6.next) H6 r (m + 255) ts ts' rz)) (RU : RunR k 300 p ss (finP rz) ss' st) (B : Bth ss' ts') (sS : ∀ y, SSet ss' y ↔ SSet ss y) (sT : ∀ y, TSet ts' y ↔ TSet ts y) (hm : m + 255 ≤ 50000) (hst : st ≤ 255) (hk : 400000000 ≤ k)
  (l1 : rz.ids.length < 400000000) (l2 : rz.texts.length < 400000000) (hj7 : ∀ H, j7 s (some ⟨jb, 0, none⟩) (some ⟨w, 0, none⟩) H = tailE k s jb w H) :
  Gx.Wp ((ref H6).bind fun r28 => (stL 7 (⟨w, 0, none⟩ : Addr) [.int .i64 r28.1.1, .string r28.1.2.1, .int .i64 r28.1.2.2.1, .slice r28.1.2.2.2.1.a r28.1.2.2.2.1.len r28.1.2.2.2.1.cap, .slice r28.1.2.2.2.2.1.a r28.1.2.2.2.2.1.len r28.1.2.2.2.2.1.cap, .slice r28.1.2.2.2.2.2.1.a r28.1.2.2.2.2.2.1.len r28.1.2.2.2.2.2.1.cap, .slice r28.1.2.2.2.2.2.2.a r28.1.2.2.2.2.2.2.len r28.1.2.2.2.2.2.2.cap] r28.2).bind fun h29 =>
   j7 s (some ⟨jb, 0, none⟩) (some ⟨w, 0, none⟩) h29) fun z => z.1 = true ∧ P9 h0 top z.2 s r (m + 255) ss' ts' := by
 refine Gx.Wp.call Wr fun r28 q28 => ?_
 obtain ⟨c, T, ⟨o1, o2, o3, o4, o5, o6, o7⟩, f1, f2⟩ := q28
 have ge := G.ge
 have nH := kH.nx
 have nc := c.nx
 have jb1 := fO jb (.inr rfl)
 have jl := J.lj
 have wT : ¬ TSet ts w := fun z => by have := G.tset w z; omega
 have gw := c.got (by omega) wT hw
 refine Gx.Wp.stL (sp := none) gw rfl rfl rfl (by decide) fun H2 c2 n2 g2 => ?_
 rw [hj7]
 have n2' := c2.nx
 have J1 := (J.chg c fun y hy z => by have := fO y hy; have := G.tset y z; omega).chg c2 fun y hy z => by have := fO y hy; omega
 have S1 : Sts H2 s m ss := (((G.S.keeps kH).chg c (fun y hy z => G.ap y hy z) fun a ha z => (G.sl a ha).2.2 z).chg c2 (fun y hy z => by have := G.sset y hy; omega) fun a ha z => by have := G.sl a ha; omega)
 have R1 : Rts (Out h.next H6.next) H2 r (m + 255) ts' := T.apartF c2 (fun y hy => by
  subst hy
  exact ⟨fun z => wT ((sT _).1 z), .inl fun z => by rcases z with z | z <;> omega⟩) fun a ha z => by have := G.rl a ha; omega
 have cH : Chg (fun y => TSet ts y) h H2 := Chg.beh (T := (· = w)) ((Chg.keeps kH).trans c) c2 fun y hy z => by omega
 unfold tailE
 exact tail9 (lo := lo) (hi := H6.next) (F := Out h.next H6.next) (wv := r28.1) G S1 R1 B cH J1 (fun y hy => ⟨fO y hy, by rcases hy with hy | hy; exact J.lt y hy; omega⟩) (fun y hy => hy.imp (fun hy => by omega) id) llo (by omega) g2 w1 w2
  ⟨o1, o2, o3, Row.chg o4 c2 fun a ha z => by have := f1 a ha; omega, Row.chg o5 c2 fun a ha z => by have := f2 a ha; omega, o6, o7⟩ f1 f2 RU sS sT hm hst hk l1 l2
end
end Gt
namespace Gt
open Go Gx
def PQ (h0 : AHeap) (top : Nat) (h : AHeap) (s r : Slc) (m n : Nat) : Prop := ∃ ss ts, P9 h0 top h s r m ss ts ∧ ss.length = n
section
variable {k m top : Nat} {h0 h : AHeap} {s r : Slc} {ss : List Sb} {ts : List Tb}
theorem job9 {H6 : AHeap} {jb w lo : Nat} {n0 : Int} {qs : List Rq} {K : List Ry → Rz} {O : Nat → Prop} {ref : AHeap → Option (ResT × AHeap)} {j7 : Slc → Option Addr → Option Addr → AHeap → Option (Bool × AHeap)}
  (G : P9 h0 top h s r m ss ts) (kH : Keeps h H6) (J : JobP (lvl k) 5 jb (fanP n0 (askAll qs [] fun ys => finP (K ys))) 0 O H6) (fO : ∀ y, JSet O jb y → lo ≤ y) (llo : h.next ≤ lo) (hw : H6.get w = some (.cells [.int .i64 0, .string ⟨#[]⟩, .int .i64 0, .slice none 0 0, .slice none 0 0, .slice none 0 0, .slice none 0 0] 42 true 0)) (w1 : h.next ≤ w) (w2 : w < lo)
  (Wr : Gx.Wp (ref H6) (JobR (Out h.next H6.next) H6 r (m + 255) ts (ansRL qs ts).1 (if may n0 = true then K (ansRL qs ts).2 else ⟨1, 0, [], []⟩))) (hq : may n0 = false → qs = []) (hl : qs.length ≤ 255) (hn : ∀ q ∈ qs, NameOk k q) (hm : m + 255 ≤ 50000) (hk : 400000000 ≤ k)
  (l1 : (K (ansRL qs ts).2).ids.length < 400000000) (l2 : (K (ansRL qs ts).2).texts.length < 400000000) (hj7 : ∀ H, j7 s (some ⟨jb, 0, none⟩) (some ⟨w, 0, none⟩) H = tailE k s jb w H) :
  Gx.Wp ((ref H6).bind fun r28 => (stL 7 (⟨w, 0, none⟩ : Addr) [.int .i64 r28.1.1, .string r28.1.2.1, .int .i64 r28.1.2.2.1, .slice r28.1.2.2.2.1.a r28.1.2.2.2.1.len r28.1.2.2.2.1.cap, .slice r28.1.2.2.2.2.1.a r28.1.2.2.2.2.1.len r28.1.2.2.2.2.1.cap, .slice r28.1.2.2.2.2.2.1.a r28.1.2.2.2.2.2.1.len r28.1.2.2.2.2.2.1.cap, .slice r28.1.2.2.2.2.2.2.a r28.1.2.2.2.2.2.2.len r28.1.2.2.2.2.2.2.cap] r28.2).bind fun h29 =>
   j7 s (some ⟨jb, 0, none⟩) (some ⟨w, 0, none⟩) h29) fun z => z.1 = true ∧ PQ h0 top z.2 s r (m + 255) ss.length := by
 obtain ⟨e, B⟩ := both_all (qs := qs) G.B
 have RU := runP (k := k) (n0 := n0) (qs := qs) (K := K) (ss := ss) hq hl hn
 rw [e] at RU
 refine Gx.Wp.mono (mid9 G kH J fO llo hw w1 w2 Wr RU B (fun y => ansL_set y qs ss) (fun y => TSet_ansRL y qs ts) hm hl hk ?_ ?_ hj7) fun z hz => ⟨hz.1, _, _, hz.2, ansL_ss qs ss⟩
 ·split
  ·exact l1
  ·exact Nat.lt_of_le_of_lt (Nat.zero_le _) (show 0 < 400000000 by decide)
 ·split
  ·exact l2
  ·exact Nat.lt_of_le_of_lt (Nat.zero_le _) (show 0 < 400000000 by decide)
theorem askL_ok {n kind : Int} {name data : ByteArray} (hk : 400000000 ≤ k) (hn : name.size ≤ 1048576) : ∀ q ∈ askL n kind name data, NameOk k q := by
 intro q hq
 unfold askL at hq
 split at hq
 ·obtain ⟨i, _, rfl⟩ := List.mem_map.1 hq
  exact ⟨by dsimp only; omega, by dsimp only; omega⟩
 ·cases hq
theorem putsL_ok {name : ByteArray} {data : List ByteArray} (hk : 400000000 ≤ k) (hn : name.size ≤ 1048576) : ∀ q ∈ putsL name data, NameOk k q := by
 intro q hq
 unfold putsL at hq
 split at hq
 ·obtain ⟨i, _, rfl⟩ := List.mem_map.1 hq
  exact ⟨by dsimp only; omega, by dsimp only; omega⟩
 ·cases hq
theorem askL_off {n kind : Int} {name data : ByteArray} (c : may n = false) : askL n kind name data = [] := by unfold askL; rw [if_neg (by rw [c]; decide)]
theorem putsL_off {name : ByteArray} {data : List ByteArray} (c : may data.length = false) : putsL name data = [] := by unfold putsL; rw [if_neg (by rw [c]; decide)]
theorem step9 (G : P9 h0 top h s r m ss ts) (kind n at' fault : Int) (name : ByteArray) {dl : Slc} {data : List ByteArray} (R : Row encS h0 dl data) (dlo : ∀ a, dl.a = some a → a.block < h0.next) (hd : data.length ≤ 1048576) (hn : name.size ≤ 1048576) (hm : m + 255 ≤ 50000) (hk : 400000000 ≤ k) :
  Gx.Wp (law09_step k (lvl k 60) s r (kind, n, at', fault, name, dl) h) fun z => z.1 = true ∧ PQ h0 top z.2 s r (m + 255) ss.length := by
 simp only [law09_step]
 have ge := G.ge
 have R0 := Row.keeps R G.keep
 have k0 := G.keep.nx
 refine Gx.Wp.new fun H1 k1 n1 g1 => Gx.Wp.new fun H2 k2 n2 g2 => Gx.Wp.jn fun j7 hj7 => ?_
 have a2 := k2.got (by omega) g1
 have kh2 : Keeps h H2 := k1.trans k2
 have hJ : ∀ (jb : Nat) (H : AHeap), j7 s (some ⟨jb, 0, none⟩) (some ⟨H1.next, 0, none⟩) H = tailE k s jb H1.next H := fun jb H => by subst hj7; rfl
 have dT : ∀ a, dl.a = some a → ¬ TSet ts a.block := fun a ha z => by have := dlo a ha; have := G.tset _ z; omega
 have names : ∀ qs : List Rq, qs.length ≤ 255 → ∀ y ∈ (ansRL qs ts).2, y.2.2.length ≤ 1048576 := fun qs hq => ansRL_names (m := m) (fun t ht => by
  obtain ⟨i, hi⟩ := List.getElem?_of_mem ht
  exact (G.R.st i t hi).2.l) (by omega)
 have al : ∀ kd, (askL n kd name nob).length ≤ 255 := fun kd => askL_len
 have go : ∀ {H : AHeap} {mk : AHeap → Option (Option Addr × AHeap)} {ref : AHeap → Option (ResT × AHeap)} {qs : List Rq} {K : List Ry → Rz} {n0 : Int} {z : Option Addr × AHeap}, Keeps h H → H2.next ≤ H.next → H.get H1.next = some (.cells [.int .i64 0, .string ⟨#[]⟩, .int .i64 0, .slice none 0 0, .slice none 0 0, .slice none 0 0, .slice none 0 0] 42 true 0) → True →
   (may n0 = false → qs = []) → qs.length ≤ 255 → (∀ q ∈ qs, NameOk k q) → (K (ansRL qs ts).2).ids.length < 400000000 → (K (ansRL qs ts).2).texts.length < 400000000 →
   (∃ jb O, z.1 = some ⟨jb, 0, none⟩ ∧ Keeps H z.2 ∧ JobP (lvl k) 5 jb (fanP n0 (askAll qs [] fun ys => finP (K ys))) 0 O z.2 ∧ (∀ y, O y → H.next ≤ y) ∧ H.next ≤ jb) →
   ∀ H6, Chg (fun y => H2.next ≤ y ∧ y < H.next) z.2 H6 → (Rts (Out h.next H6.next) H6 r m ts → Gx.Wp (ref H6) (JobR (Out h.next H6.next) H6 r (m + 255) ts (ansRL qs ts).1 (if may n0 = true then K (ansRL qs ts).2 else ⟨1, 0, [], []⟩))) →
   Gx.Wp ((ref H6).bind fun r28 => (stL 7 (⟨H1.next, 0, none⟩ : Addr) [.int .i64 r28.1.1, .string r28.1.2.1, .int .i64 r28.1.2.2.1, .slice r28.1.2.2.2.1.a r28.1.2.2.2.1.len r28.1.2.2.2.1.cap, .slice r28.1.2.2.2.2.1.a r28.1.2.2.2.2.1.len r28.1.2.2.2.2.1.cap, .slice r28.1.2.2.2.2.2.1.a r28.1.2.2.2.2.2.1.len r28.1.2.2.2.2.2.1.cap, .slice r28.1.2.2.2.2.2.2.a r28.1.2.2.2.2.2.2.len r28.1.2.2.2.2.2.2.cap] r28.2).bind fun h29 =>
    j7 s z.1 (some ⟨H1.next, 0, none⟩) h29) fun z => z.1 = true ∧ PQ h0 top z.2 s r (m + 255) ss.length := by
  intro H mk ref qs K n0 z kH leH gw _ hq hl hno l1 l2 hz H6 c6 Wr
  obtain ⟨jb, O, ej, kz, J, far, hj⟩ := hz
  rw [ej]
  have nz := kz.nx
  have J6 := J.chg c6 fun y hy z => by
   rcases hy with hy | hy
   ·have := far y hy; omega
   ·omega
  have k6 : Keeps h H6 := Chg.beh (T := fun y => H2.next ≤ y ∧ y < H.next) (kH.trans kz) c6 fun y hy z => by omega
  have gw6 := c6.got (by omega) (fun z => by omega) (kz.got (by omega) gw)
  exact job9 (lo := H.next) G k6 J6 (fun y hy => by rcases hy with hy | hy; exact far y hy; omega) kH.nx gw6 (by omega) (by omega) (Wr (G.R.out k6 (Nat.le_refl _))) hq hl hno hm hk l1 l2 (hJ jb)
 have rla : ∀ H, Keeps h H → ∀ a, r.a = some a → a.block < H.next := fun H c a ha => by have := (G.rl a ha).1; have := c.nx; omega
 obtain ⟨v, ev⟩ := among_some k (lvl k 60) kind (m := 4) (by decide) H2
 refine Gx.Wp.bnd (sldI_at a2 rfl) (Gx.Wp.bnd ev ?_)
 by_cases v0 : v = 0
 ·refine Gx.Wp.ifp (by simpa using v0) (Gx.Wp.bnd (sldL_at a2 rfl) (Gx.Wp.call (Lend_spec (dl := ⟨dl.a, dl.len, dl.cap⟩) (Row.keeps R0 kh2) hd) fun r20 q20 => ?_))
  obtain ⟨b, eb, k20, b1, b2, gb⟩ := q20
  rw [eb]
  have k20 : Keeps H2 r20.2 := k20
  have b1 : H2.next ≤ b := b1
  have n20 := k20.nx
  have a20 := k20.got (by omega) a2
  refine Gx.Wp.bnd (ldS_at a20 rfl) (Gx.Wp.call (PutJob_P (k := k) (n := 60) (by decide) (by omega) (name := name) (own_row b2 gb) (by omega)) fun r22 q22 => ?_)
  have q22' := q22
  obtain ⟨jb, O, ej, k22, J, far, hj⟩ := q22
  have n22 := k22.nx
  have a22 := k22.got (by omega) a20
  have gb22 := k22.got b2 gb
  refine Gx.Wp.bnd (sldL_at a22 rfl) (Gx.Wp.bnd (Kept_spec (dl := ⟨dl.a, dl.len, dl.cap⟩) (Row.keeps R0 ((kh2.trans k20).trans k22)) hd (by omega) gb22 hk) (Gx.Wp.ifn (fun z => by cases z) (Gx.Wp.call (Spoil_spec (n := data.length) (by simp) hd gb22 hk) fun r25 c25 => ?_)))
  have a25 := c25.got (by dsimp only; omega) (by omega) a22
  refine Gx.Wp.bnd (ldS_at a25 rfl) (Gx.Wp.bnd (sldL_at a25 rfl) ?_)
  have c25' : Chg (fun y => H2.next ≤ y ∧ y < r20.2.next) r22.2 r25.2 := c25.wk fun y _ z => by subst z; exact ⟨b1, b2⟩
  have kr : Keeps h r25.2 := Chg.beh (T := fun y => y = b) ((kh2.trans k20).trans k22) c25 fun y hy z => by have := kh2.nx; omega
  exact go (mk := fun _ => none) (ref := fun H => ref09_PutJob k (lvl k 60) r name ⟨dl.a, dl.len, dl.cap⟩ H) (n0 := data.length) (qs := putsL name data) (K := fun ys => codesZ (codesY ys)) (kh2.trans k20) (by omega) (k20.got (by omega) g2) trivial putsL_off putsL_len (putsL_ok hk hn) (show 0 < 400000000 by decide) (show 0 < 400000000 by decide) q22' r25.2 c25'
   fun T => rPutJob_spec T G.B (rla _ kr) name (dl := ⟨dl.a, dl.len, dl.cap⟩) (Row.keeps R0 kr) dT hm hk
 ·refine Gx.Wp.ifn (by simpa using v0) ?_
  by_cases v1 : v = 1
  ·refine Gx.Wp.ifp (by simpa using v1) (Gx.Wp.bnd (sldI_at a2 rfl) (Gx.Wp.bnd (ldS_at a2 rfl) (Gx.Wp.call (GetJob_P (k := k) (n := 60) (n0 := n) (name := name) (by decide) (by omega)) fun r22 q22 => ?_)))
   have q22' := q22
   obtain ⟨jb, O, ej, k22, J, far, hj⟩ := q22
   have k22 : Keeps H2 r22.2 := k22
   have n22 := k22.nx
   have a22 := k22.got (by omega) a2
   refine Gx.Wp.bnd (sldI_at a22 rfl) (Gx.Wp.bnd (ldS_at a22 rfl) ?_)
   exact go (mk := fun _ => none) (ref := fun H => ref09_GetJob k (lvl k 60) r n name H) (n0 := n) (qs := askL n 2 name nob) (K := codesG) kh2 (Nat.le_refl _) g2 trivial askL_off askL_len (askL_ok hk hn) (show 0 < 400000000 by decide) (by show ((ansRL (askL n 2 name nob) ts).2.map _).length < _; rw [List.length_map, ansRL_len]; have := al 2; omega) q22' r22.2 (Chg.refl _ _)
    fun T => rGetJob_spec T G.B (rla _ (kh2.trans k22)) n name hm hk
  ·refine Gx.Wp.ifn (by simpa using v1) ?_
   by_cases v2 : v = 2
   ·refine Gx.Wp.ifp (by simpa using v2) (Gx.Wp.bnd (sldI_at a2 rfl) (Gx.Wp.bnd (ldS_at a2 rfl) (Gx.Wp.call (DelJob_P (k := k) (n := 60) (n0 := n) (name := name) (by decide) (by omega)) fun r22 q22 => ?_)))
    have q22' := q22
    obtain ⟨jb, O, ej, k22, J, far, hj⟩ := q22
    have k22 : Keeps H2 r22.2 := k22
    have n22 := k22.nx
    have a22 := k22.got (by omega) a2
    refine Gx.Wp.bnd (sldI_at a22 rfl) (Gx.Wp.bnd (ldS_at a22 rfl) ?_)
    exact go (mk := fun _ => none) (ref := fun H => ref09_DelJob k (lvl k 60) r n name H) (n0 := n) (qs := askL n 4 name nob) (K := fun ys => codesD (codesY ys)) kh2 (Nat.le_refl _) g2 trivial askL_off askL_len (askL_ok hk hn) (show 0 < 400000000 by decide) (show 0 < 400000000 by decide) q22' r22.2 (Chg.refl _ _)
     fun T => rDelJob_spec T G.B (rla _ (kh2.trans k22)) n name hm hk
   ·refine Gx.Wp.ifn (by simpa using v2) (Gx.Wp.bnd (sldI_at a2 rfl) (Gx.Wp.bnd (ldS_at a2 rfl) (Gx.Wp.call (ListJob_P (k := k) (n := 60) (n0 := n) (name := name) (by decide) (by omega)) fun r22 q22 => ?_)))
    have q22' := q22
    obtain ⟨jb, O, ej, k22, J, far, hj⟩ := q22
    have k22 : Keeps H2 r22.2 := k22
    have n22 := k22.nx
    have a22 := k22.got (by omega) a2
    refine Gx.Wp.bnd (sldI_at a22 rfl) (Gx.Wp.bnd (ldS_at a22 rfl) ?_)
    have nms := names (askL n 3 name nob) askL_len
    exact go (mk := fun _ => none) (ref := fun H => ref09_ListJob k (lvl k 60) r n name H) (n0 := n) (qs := askL n 3 name nob) (K := fun ys => namesZ (namesY ys) (codesY ys)) kh2 (Nat.le_refl _) g2 trivial askL_off askL_len (askL_ok hk hn) (namesY_len nms (by rw [ansRL_len]; exact al 3)) (show 0 < 400000000 by decide) q22' r22.2 (Chg.refl _ _)
     fun T => rListJob_spec T G.B (rla _ (kh2.trans k22)) n name hm hk nms
end
end Gt
namespace Gt
open Go Gx
theorem Row.set1 {α : Type} {enc : α → Value} {h : AHeap} {s : Slc} {xs : List α} {i : Nat} {x y : α} (R : Row enc h s xs) (hx : xs[i]? = some x) (e : enc y = enc x) : Row enc h s (xs.set i y) := by
 refine ⟨by rw [R.1]; simp, fun j t hj => ?_⟩
 have hlt := (List.getElem?_eq_some_iff.1 hx).1
 by_cases c : i = j
 ·subst c
  rw [List.getElem?_set] at hj
  simp [hlt] at hj
  subst hj
  rw [e]; exact R.2 i x hx
 ·rw [List.getElem?_set_ne c] at hj
  exact R.2 j t hj
theorem set_at {α : Type} {xs : List α} {i : Nat} {x y : α} (hx : xs[i]? = some x) {j : Nat} {t : α} (hj : (xs.set i y)[j]? = some t) : (j = i ∧ t = y) ∨ (j ≠ i ∧ xs[j]? = some t) := by
 have hlt := (List.getElem?_eq_some_iff.1 hx).1
 by_cases c : i = j
 ·subst c
  rw [List.getElem?_set] at hj
  simp [hlt] at hj
  exact .inl ⟨rfl, hj.symm⟩
 ·rw [List.getElem?_set_ne c] at hj
  exact .inr ⟨fun z => c z.symm, hj⟩
section
variable {k m top : Nat} {h0 h : AHeap} {s r : Slc} {ss : List Sb} {ts : List Tb}
theorem Sts.upd {h' : AHeap} {i : Nat} {x : Sb} {p : PS} (T : Sts h s m ss) (hx : ss[i]? = some x) (c : Chg (SB x.1 x.2.1) h h') (sr : SR h' x.1 x.2.1 p) (b : StB m p) : Sts h' s m (ss.set i (x.1, x.2.1, p)) := by
 have sx : ∀ y, SB x.1 x.2.1 y → SSet ss y := fun y z => ⟨x, mem_of hx, z⟩
 refine ⟨Row.set1 (Row.chg T.rd c fun a ha z => T.fr a ha (sx _ z)) hx rfl, fun a ha z => T.fr a ha ((SSet_set hx _).1 z), fun j t hj => ?_, fun a b' u v ha hb hab => ?_⟩
 ·rcases set_at hx hj with ⟨rfl, rfl⟩ | ⟨ne, hj⟩
  ·exact ⟨sr, b⟩
  ·have ap := T.ap j i t x hj hx ne
   obtain ⟨q1, q2⟩ := T.st j t hj
   have ap2 := T.ap i j x t hx hj fun z => ne z.symm
   exact ⟨q1.chg c (fun z => ap2.1 z) (fun z => ap2.2 z), q2⟩
 ·have back : ∀ (j : Nat) w, (ss.set i (x.1, x.2.1, p))[j]? = some w → ∃ v, ss[j]? = some v ∧ w.1 = v.1 ∧ w.2.1 = v.2.1 := by
   intro j w hw
   rcases set_at hx hw with ⟨rfl, rfl⟩ | ⟨ne, hw⟩
   ·exact ⟨x, hx, rfl, rfl⟩
   ·exact ⟨w, hw, rfl, rfl⟩
  obtain ⟨u', hu, e1, e2⟩ := back a u ha
  obtain ⟨v', hv, e3, e4⟩ := back b' v hb
  have := T.ap a b' u' v' hu hv hab
  rw [e1, e2, e3, e4]; exact this
theorem Rts.upd {h' : AHeap} {i : Nat} {x : Tb} {p : RSt} (T : Rts (fun _ => True) h s m ts) (hx : ts[i]? = some x) (c : Chg (· = x.1) h h') (sr : RR (fun _ => True) h' x.1 p) (b : RtB m p) : Rts (fun _ => True) h' s m (ts.set i (x.1, p)) := by
 have sx : ∀ y, y = x.1 → TSet ts y := fun y z => ⟨x, mem_of hx, z⟩
 obtain ⟨c0, g0⟩ := (T.st i x hx).1.ty
 refine ⟨Row.set1 (Row.chg T.rd c fun a ha z => T.fr a ha (sx _ z)) hx rfl, fun a ha z => T.fr a ha ((TSet_set hx _).1 z), fun j t hj => ?_, fun a b' u v ha hb hab => ?_⟩
 ·rcases set_at hx hj with ⟨rfl, rfl⟩ | ⟨ne, hj⟩
  ·exact ⟨sr, b⟩
  ·obtain ⟨q1, q2⟩ := T.st j t hj
   have ap := T.ap i j x t hx hj fun z => ne z.symm
   exact ⟨q1.apartE c fun y hy => by subst hy; exact ⟨ap, _, _, _, _, g0, by decide⟩, q2⟩
 ·have back : ∀ (j : Nat) w, (ts.set i (x.1, p))[j]? = some w → ∃ v, ts[j]? = some v ∧ w.1 = v.1 := by
   intro j w hw
   rcases set_at hx hw with ⟨rfl, rfl⟩ | ⟨ne, hw⟩
   ·exact ⟨x, hx, rfl⟩
   ·exact ⟨w, hw, rfl⟩
  obtain ⟨u', hu, e1⟩ := back a u ha
  obtain ⟨v', hv, e3⟩ := back b' v hb
  have := T.ap a b' u' v' hu hv hab
  rw [e1, e3]; exact this
theorem Bth.upd {i : Nat} {x : Sb} {y : Tb} {p : PS} {q : RSt} (B : Bth ss ts) (hx : ss[i]? = some x) (hy : ts[i]? = some y) (R : Rel p q) : Bth (ss.set i (x.1, x.2.1, p)) (ts.set i (y.1, q)) := by
 refine ⟨by simp [B.len], fun j u v hu hv => ?_⟩
 rcases set_at hx hu with ⟨rfl, rfl⟩ | ⟨ne, hu⟩
 ·rcases set_at hy hv with ⟨_, rfl⟩ | ⟨ne, _⟩
  ·exact R
  ·exact absurd rfl ne
 ·rcases set_at hy hv with ⟨e, _⟩ | ⟨_, hv⟩
  ·exact absurd e ne
  ·exact B.rel j u v hu hv
theorem P9.upd (G : P9 h0 top h s r m ss ts) {h1 h2 : AHeap} {i : Nat} {x : Sb} {y : Tb} {p : PS} {q : RSt} (hx : ss[i]? = some x) (hy : ts[i]? = some y) (c1 : Chg (SB x.1 x.2.1) h h1) (sr : SR h1 x.1 x.2.1 p) (b : StB m p) (c2 : Chg (· = y.1) h1 h2) (tr : RR (fun _ => True) h2 y.1 q) (b2 : RtB m q) (Re : Rel p q) :
  P9 h0 top h2 s r m (ss.set i (x.1, x.2.1, p)) (ts.set i (y.1, q)) := by
 have sx : ∀ z, SB x.1 x.2.1 z → SSet ss z := fun z w => ⟨x, mem_of hx, w⟩
 have ty : TSet ts y.1 := ⟨y, mem_of hy, rfl⟩
 have S1 := G.S.upd hx c1 sr b
 have R1 : Rts (fun _ => True) h1 r m ts := G.R.apartG c1 (fun z w => ⟨G.ap z (sx z w), SSet_noS G.S (sx z w)⟩) fun a ha w => (G.rl a ha).2.1 (sx _ w)
 have n1 := c1.nx
 have n2 := c2.nx
 have nk := G.keep.nx
 refine ⟨S1.chg c2 (fun z w q => G.ap z ((SSet_set hx z).1 w) (q ▸ ty)) (fun a ha q => (G.sl a ha).2.2 (q ▸ ty)), R1.upd hy c2 tr b2, G.B.upd hx hy Re, by have := G.ge; omega, fun a ha => ?_, fun a ha => ?_, fun z w => G.sset z ((SSet_set hx z).1 w), fun z w => G.tset z ((TSet_set hy z).1 w), fun z w1 w2 => G.ap z ((SSet_set hx z).1 w1) ((TSet_set hy z).1 w2), ⟨by omega, fun z hz _ => ?_⟩⟩
 ·have := G.sl a ha
  exact ⟨this.1, fun w => this.2.1 ((SSet_set hx _).1 w), fun w => this.2.2 ((TSet_set hy _).1 w)⟩
 ·have := G.rl a ha
  exact ⟨this.1, fun w => this.2.1 ((SSet_set hx _).1 w), fun w => this.2.2 ((TSet_set hy _).1 w)⟩
 ·have e1 := c2.oth z (by omega) fun w => by have := G.tset z (w ▸ ty); omega
  have e2 := c1.oth z (by omega) fun w => by have := G.sset z (sx z w); omega
  exact e1.trans (e2.trans (G.keep.oth z hz fun f => f))
theorem P9.keeps (G : P9 h0 top h s r m ss ts) {h2 : AHeap} (c : Keeps h h2) : P9 h0 top h2 s r m ss ts := ⟨G.S.keeps c, G.R.keeps c, G.B, Nat.le_trans G.ge c.nx, G.sl, G.rl, G.sset, G.tset, G.ap, G.keep.trans c⟩
theorem fault9 (G : P9 h0 top h s r m ss ts) {i : Nat} {x : Sb} {y : Tb} (hx : ss[i]? = some x) (hy : ts[i]? = some y) (kind : Int) :
  Gx.Wp (law09_fault k (lvl k 60) (some ⟨x.1, 0, none⟩) (some ⟨y.1, 0, none⟩) kind h) fun z => PQ h0 top z.2 s r m ss.length ∧ Chg (fun y => y < top) h z.2 := by
 have sx : ∀ z, SB x.1 x.2.1 z → z < top := fun z w => (G.sset z ⟨x, mem_of hx, w⟩).2
 have ty : y.1 < top := (G.tset y.1 ⟨y, mem_of hy, rfl⟩).2
 obtain ⟨Sx, Bx⟩ := G.S.st i x hx
 obtain ⟨Ty, By⟩ := G.R.st i y hy
 have Re := G.B.rel i x y hx hy
 have keepT : ∀ {h1 : AHeap}, Chg (SB x.1 x.2.1) h h1 → RR (fun _ => True) h1 y.1 y.2 := fun c => by
  have sx : ∀ z, SB x.1 x.2.1 z → SSet ss z := fun z w => ⟨x, mem_of hx, w⟩
  exact Ty.apartG c fun z w => ⟨fun e => G.ap z (sx z w) ⟨y, mem_of hy, e⟩, SSet_noS G.S (sx z w)⟩
 simp only [law09_fault]
 obtain ⟨v, ev⟩ := among_some k (lvl k 60) kind (m := 5) (by decide) h
 refine Gx.Wp.bnd ev ?_
 have down : ∀ b : Bool, Gx.Wp ((store_Store_Down k (lvl k 60) (some ⟨x.1, 0, none⟩) b h).bind fun r2 => (some (⟨y.1, 0, none⟩ : Addr)).bind fun p3 => (st1 (⟨p3.block, p3.off + 3, none⟩ : Addr) (.bool b) r2.2).bind fun h4 => some ((), h4)) fun z => PQ h0 top z.2 s r m ss.length ∧ Chg (fun y => y < top) h z.2 := by
  intro b
  refine Gx.Wp.call (Down_spec (lvl k 60) Sx b) fun r2 q2 => ?_
  obtain ⟨c2, s2⟩ := q2
  obtain ⟨h4, e4, c4, t4⟩ := rOff_spec (keepT c2) b
  exact Gx.Wp.bnd rfl (Gx.Wp.bnd e4 (Gx.Wp.of ⟨⟨_, _, G.upd hx hy c2 s2 ⟨Bx.g, Bx.l, Bx.c, Bx.f, Bx.q⟩ c4 t4 ⟨By.l, By.c, By.f⟩ ⟨Re.q, Re.f, Re.c, rfl, Re.g, Re.s, Re.eq⟩, by simp⟩, (c2.wk fun z _ w => sx z w).trans (c4.wk fun z _ w => w ▸ ty)⟩))
 by_cases v1 : v = 1
 ·exact Gx.Wp.ifp (by simpa using v1) (down true)
 refine Gx.Wp.ifn (by simpa using v1) ?_
 by_cases v2 : v = 2
 ·exact Gx.Wp.ifp (by simpa using v2) (down false)
 refine Gx.Wp.ifn (by simpa using v2) ?_
 by_cases v3 : v = 3
 ·refine Gx.Wp.ifp (by simpa using v3) (Gx.Wp.call (Fail_spec (lvl k 60) Sx 1) fun r2 q2 => ?_)
  obtain ⟨_, c2, s2⟩ := q2
  refine Gx.Wp.call (rFail_spec (lvl k 60) (keepT c2) 1) fun r3 q3 => ?_
  obtain ⟨_, c3, t3⟩ := q3
  exact Gx.Wp.of ⟨⟨_, _, G.upd hx hy c2 s2 ⟨Bx.g, Bx.l, Bx.c, failV_le (n := 1) Bx.f, Bx.q⟩ c3 t3 ⟨By.l, By.c, failV_le (n := 1) By.f⟩ ⟨Re.q, by show failV 1 x.2.2.fails = failV 1 y.2.fails; rw [Re.f], Re.c, Re.d, Re.g, Re.s, Re.eq⟩, by simp⟩, (c2.wk fun z _ w => sx z w).trans (c3.wk fun z _ w => w ▸ ty)⟩
 ·exact Gx.Wp.ifn (by simpa using v3) (Gx.Wp.of ⟨⟨ss, ts, G, rfl⟩, Chg.refl _ _⟩)
theorem plays_l1 {D : CallF} (bot) {acts : Slc} {i0 : Int} {Q : Bool × AHeap → Prop} {J : Slc → Slc → Slc → Int → AHeap → Option (Bool × AHeap)} (hm : m ≤ 50000) (hk : 400000000 ≤ k) (hl : ss.length = 4) (hJ : ∀ H, P9 h0 top H s r m ss ts → Gx.Wp (J acts s r i0 H) Q) :
  ∀ (d c : Nat) (H : AHeap), c + d = 4 → P9 h0 top H s r m ss ts → Gx.Wp (iterK bot (d + 1) (law09_FanPlays_l1b k D J) acts s r i0 (c : Int) H) Q := fun d => by
 induction d with
 | zero =>
  intro c H hd G
  rw [iterK_s]; simp only [law09_FanPlays_l1b]
  exact Gx.Wp.ifn (by simp; omega) (hJ H G)
 | succ d ih =>
  intro c H hd G
  rw [iterK_s]; simp only [law09_FanPlays_l1b]
  obtain ⟨x, hx⟩ := isome (l := ss) (i := c) (by omega)
  obtain ⟨y, hy⟩ := isome (l := ts) (i := c) (by rw [← G.B.len]; omega)
  have Re := G.B.rel c x y hx hy
  have Bx := (G.S.st c x hx).2
  have By := (G.R.st c y hy).2
  have b1 := By.l
  have b2 := Bx.l
  have ld : ∀ {H' : AHeap}, P9 h0 top H' s r m ss ts → ∃ q, Gx.idxL 1 s (c : Int) = some q ∧ Gx.ldP q H' = some (some ⟨x.1, 0, none⟩) := fun G' => by
   obtain ⟨q, q1, q2, _⟩ := G'.S.rd.rd hx
   exact ⟨q, q1, by simp only [Gx.ldP, q2]; rfl⟩
  obtain ⟨qy, y1, _, _⟩ := G.R.rd.rd hy
  have ldy : ∀ {H' : AHeap}, P9 h0 top H' s r m ss ts → Gx.ldP qy H' = some (some ⟨y.1, 0, none⟩) := fun G' => by
   obtain ⟨q, q1, q2, _⟩ := G'.R.rd.rd hy
   rw [y1] at q1; cases q1
   simp only [Gx.ldP, q2]; rfl
  obtain ⟨qx, x1, l1⟩ := ld G
  have lx : ∀ {H' : AHeap}, P9 h0 top H' s r m ss ts → Gx.ldP qx H' = some (some ⟨x.1, 0, none⟩) := fun G' => by
   obtain ⟨q, q1, q2⟩ := ld G'
   rw [x1] at q1; cases q1
   exact q2
  refine Gx.Wp.ifp (by simp; omega) (Gx.Wp.jn fun j77 hj => Gx.Wp.bnd x1 (Gx.Wp.bnd l1 (Gx.Wp.call (Names_spec D (G.S.st c x hx).1 Bx.g (by omega)) fun r80 q80 => ?_)))
  obtain ⟨k1, A1⟩ := q80
  have G1 := G.keeps k1
  refine Gx.Wp.bnd y1 (Gx.Wp.bnd (ldy G1) (Gx.Wp.gp (ssw1 (bnd (ldy G) rfl)) (Gx.Wp.call (rnames_spec D (G1.R.st c y hy).1 ⟨#[]⟩ (by omega) (by omega)) fun r85 q85 => ?_)))
  obtain ⟨k2, A2⟩ := q85
  have e : (y.2.L.map (·.1)).filter (starts ⟨#[]⟩) = nm x.2.2.es := by
   rw [Re.nm]
   exact List.filter_eq_self.2 fun n _ => starts_nob n
  rw [e] at A2
  have ln : (nm x.2.2.es).length ≤ 100000 := by rw [nm_len]; omega
  have G2 := G1.keeps k2
  refine Gx.Wp.bnd (sameS_spec D (A1.keeps k2).row A2.row (by omega) (by omega)) (Gx.Wp.ifn (fun z => by cases z) ?_)
  have tt : totR y.2.L ≤ 1152921504606846976 := by
   rw [← Re.tot]
   have := tot_le Bx.g; omega
  refine Gx.Wp.bnd x1 (Gx.Wp.bnd (lx G2) (Gx.Wp.bnd (Used_spec D (G2.S.st c x hx).1) (Gx.Wp.bnd y1 (Gx.Wp.bnd (ldy G2) (Gx.Wp.gp (ssw1 (bnd (ldy G2) rfl)) (Gx.Wp.bnd (rused_spec D (G2.R.st c y hy).1 (by omega) (by omega) tt) (Gx.Wp.ifn (by rw [Re.tot]; simp) ?_)))))))
  obtain ⟨_, l, hb, _⟩ := (G2.R.st c y hy).1.blk
  refine Gx.Wp.bnd x1 (Gx.Wp.bnd (lx G2) (Gx.Wp.bnd (Calls_spec D (G2.S.st c x hx).1) (Gx.Wp.bnd y1 (Gx.Wp.bnd (ldy G2) (Gx.Wp.gp (ssw1 (bnd (ldy G2) rfl)) (Gx.Wp.bnd rfl (Gx.Wp.bnd (sldI_at hb rfl) (Gx.Wp.gp (ssw1 (bnd (sldI_at hb rfl) rfl)) ?_))))))))
  subst hj
  dsimp only
  refine Gx.Wp.ifn (by rw [Re.c]; simp) ?_
  rw [Gx.w1 (by omega)]
  exact ih (c + 1) _ (by omega) G2
end
end Gt
namespace Gt
open Go Gx
def actF : DT := .pair (.int .i64) (.pair (.int .i64) (.pair (.int .i64) (.pair (.int .i64) (.pair .str (.pair (.list .str) .unit)))))
abbrev Af := Int × Int × Int × Int × ByteArray × Slc
def encF (x : Af) : List Value := [.int .i64 x.1, .int .i64 x.2.1, .int .i64 x.2.2.1, .int .i64 x.2.2.2.1, .string x.2.2.2.2.1, .slice x.2.2.2.2.2.a x.2.2.2.2.2.len x.2.2.2.2.2.cap]
theorem encF_len (x : Af) : (encF x).length = 6 := rfl
theorem actF_enc {h : AHeap} {x : actF.V} {cs : List Value} (r : Gx.Rep h actF x cs) : ∃ s : Slc, cs = encF (x.1, x.2.1, x.2.2.1, x.2.2.2.1, x.2.2.2.2.1, s) ∧ Row encS h s x.2.2.2.2.2.1 ∧ ∀ a, s.a = some a → a.block < h.next := by
 obtain ⟨_, _, rfl, ⟨rfl, _⟩, _, _, rfl, ⟨rfl, _⟩, _, _, rfl, ⟨rfl, _⟩, _, _, rfl, ⟨rfl, _⟩, _, _, rfl, ⟨rfl, _⟩, c1, _, rfl, hl, rfl⟩ := r
 obtain ⟨s, rfl, _⟩ := id hl
 exact ⟨s, rfl, Gx.Rep.rowS hl, Gx.Rep.lt hl⟩
structure ActQ (h : AHeap) (x : Af) (v : actF.V) : Prop where
 n : x.2.2.2.2.1 = v.2.2.2.2.1
 row : Row encS h x.2.2.2.2.2 v.2.2.2.2.2.1
 lt : ∀ a, x.2.2.2.2.2.a = some a → a.block < h.next
theorem actsF {h : AHeap} {sl : Slc} {l : List actF.V} (R : Gx.Rep h (.list actF) l [.slice sl.a sl.len sl.cap]) : ∃ xs : List Af, RowW 6 encF h sl xs ∧ xs.length = l.length ∧ ∀ (i : Nat) (z : Af) (v : actF.V), xs[i]? = some z → l[i]? = some v → ActQ h z v := by
 have lt := R.lt
 obtain ⟨s0, e, hl, hb, hx⟩ := R
 simp at e
 obtain ⟨ea, en, ec⟩ := e
 have each : ∀ i : Fin l.length, ∃ s : Slc, (∃ a c e r fz, sl.a = some a ∧ h.get a.block = some (.cells c e r fz) ∧ ∀ (j : Nat) (v : Value), (encF ((l[i]).1, (l[i]).2.1, (l[i]).2.2.1, (l[i]).2.2.2.1, (l[i]).2.2.2.2.1, s))[j]? = some v → c[a.off + i * 6 + j]? = some v) ∧ Row encS h s (l[i]).2.2.2.2.2.1 ∧ ∀ a, s.a = some a → a.block < h.next := by
  intro i
  obtain ⟨a, c, e, r, fz, cx, h1, h2, _, h4, h5⟩ := hx i l[i] (by simp)
  obtain ⟨s, e1, e2, e3⟩ := actF_enc h5
  exact ⟨s, ⟨a, c, e, r, fz, by rw [ea]; exact h1, h2, fun j v hv => h4 j v (by rw [e1]; exact hv)⟩, e2, e3⟩
 refine ⟨List.ofFn fun i : Fin l.length => ((l[i]).1, (l[i]).2.1, (l[i]).2.2.1, (l[i]).2.2.2.1, (l[i]).2.2.2.2.1, Classical.choose (each i)), ⟨by rw [en, hl]; simp, fun i x hi => ?_⟩, by simp, fun i x v hi hj => ?_⟩
 ·simp only [List.getElem?_ofFn] at hi
  split at hi
  ·rename_i hlt
   cases hi
   obtain ⟨⟨a, c, e, r, fz, h1, h2, h3⟩, _⟩ := Classical.choose_spec (each ⟨i, hlt⟩)
   exact ⟨a, c, e, r, fz, h1, lt a h1, h2, h3⟩
  ·cases hi
 ·simp only [List.getElem?_ofFn] at hi
  split at hi
  ·rename_i hlt
   cases hi
   simp [hlt] at hj
   subst hj
   exact ⟨rfl, (Classical.choose_spec (each ⟨i, hlt⟩)).2.1, (Classical.choose_spec (each ⟨i, hlt⟩)).2.2⟩
  ·cases hi
theorem among4 (k : Nat) (D : CallF) (x : Int) (h : AHeap) : ∃ v : Nat, v < 4 ∧ book_Among k D x 4 h = some ((v : Int), h) := by
 simp only [book_Among]
 rw [if_neg (by decide), if_neg (by decide)]
 have h1 : -4 < Int.tmod x 4 := Int.lt_tmod_of_pos x (by decide)
 have h2 : Int.tmod x 4 < 4 := Int.tmod_lt_of_pos x (by decide)
 have e : IntKind.wrap .i64 (Int.tmod x 4 + 4) = Int.tmod x 4 + 4 := by rw [w64 _ (by omega)]
 rw [e]
 have h3 : 0 ≤ Int.tmod (Int.tmod x 4 + 4) 4 := Int.tmod_nonneg _ (by omega)
 have h4 : Int.tmod (Int.tmod x 4 + 4) 4 < 4 := Int.tmod_lt_of_pos _ (by decide)
 exact ⟨(Int.tmod (Int.tmod x 4 + 4) 4).toNat, by omega, by congr 2; omega⟩
section
variable {k top : Nat} {h0 : AHeap} {s r : Slc}
theorem P9.wk {m m' : Nat} {h : AHeap} {ss : List Sb} {ts : List Tb} (G : P9 h0 top h s r m ss ts) (le : m ≤ m') : P9 h0 top h s r m' ss ts := ⟨G.S.wk le, G.R.wk le, G.B, G.ge, G.sl, G.rl, G.sset, G.tset, G.ap, G.keep⟩
theorem plays_l2 {D : CallF} (bot) {acts : Slc} {i0 : Int} {H : AHeap} {ab : Nat} {v1 v2 v3 v4 v5 : Value} {dl : Slc} {data : List ByteArray} (ga : H.get ab = some (.cells [v1, v2, v3, v4, v5, .slice dl.a dl.len dl.cap] 64 true 0)) (R : Row encS H dl data) (hd : data.length ≤ 1048576) {Q : Bool × AHeap → Prop} {J : Slc → Slc → Slc → Int → Option Addr → Bool → AHeap → Option (Bool × AHeap)} (hJ : ∀ b, Gx.Wp (J acts s r i0 (some ⟨ab, 0, none⟩) b H) Q) :
  ∀ (d c : Nat) (b : Bool), c + d = data.length → Gx.Wp (iterK bot (d + 1) (law09_FanPlays_l2b k D J) acts s r i0 (some ⟨ab, 0, none⟩) b (c : Int) H) Q := fun d => by
 induction d with
 | zero =>
  intro c b hc
  rw [iterK_s]; simp only [law09_FanPlays_l2b]
  exact Gx.Wp.bnd rfl (Gx.Wp.bnd (sldL_at ga rfl) (Gx.Wp.ifn (by rw [R.1]; simp; omega) (hJ b)))
 | succ d ih =>
  intro c b hc
  rw [iterK_s]; simp only [law09_FanPlays_l2b]
  refine Gx.Wp.bnd rfl (Gx.Wp.bnd (sldL_at ga rfl) (Gx.Wp.ifp (by rw [R.1]; simp; omega) (Gx.Wp.jn fun j hj => ?_)))
  have go : ∀ b, Gx.Wp (j acts s r i0 (some ⟨ab, 0, none⟩) b (c : Int) H) Q := fun b => by
   subst hj
   dsimp only
   rw [Gx.w1 (by omega)]
   exact ih (c + 1) b (by omega)
  cases b with
  | true => exact Gx.Wp.ifp rfl (go true)
  | false =>
   obtain ⟨x, hx⟩ := isome (l := data) (i := c) (by omega)
   obtain ⟨p, p1, p2⟩ := R.ldS hx
   exact Gx.Wp.ifn (fun z => by cases z) (Gx.Wp.bnd rfl (Gx.Wp.bnd (sldL_at ga rfl) (Gx.Wp.bnd p1 (Gx.Wp.bnd p2 (go _)))))
theorem plays_l0 (bot) {acts : Slc} {xs : List Af} {l : List actF.V} (R : RowW 6 encF h0 acts xs) (el : xs.length = l.length) (A : ∀ (i : Nat) (z : Af) (v : actF.V), xs[i]? = some z → l[i]? = some v → ActQ h0 z v) (hx : xs.length ≤ 1048576) (hn : ∀ v ∈ l, v.2.2.2.2.1.size ≤ 1048576 ∧ v.2.2.2.2.2.1.length ≤ 1048576) (hk : 400000000 ≤ k)
  {Q : Bool × AHeap → Prop} {J : AHeap → Option (Bool × AHeap)} (hJ : ∀ H, Gx.Wp (J H) Q) :
  ∀ (d i : Nat) (H : AHeap), i + d = min xs.length 30 → PQ h0 top H s r (i * 255) 4 → Gx.Wp (iterK bot (d + 1) (law09_FanPlays_l0b k (lvl k 60) J) acts s r (i : Int) H) Q := fun d => by
 induction d with
 | zero =>
  intro i H hd _
  rw [iterK_s]; simp only [law09_FanPlays_l0b]
  refine Gx.Wp.jn fun j21 hj => ?_
  have fin : Gx.Wp (j21 acts s r (i : Int) false H) Q := by
   subst hj
   exact Gx.Wp.ifn (fun z => by cases z) (hJ H)
  by_cases c : i < xs.length
  ·refine Gx.Wp.ifp (by rw [R.len]; simp; omega) ?_
   rw [decide_eq_false (by omega)]; exact fin
  ·exact Gx.Wp.ifn (by rw [R.len]; simp; omega) fin
 | succ d ih =>
  intro i H hd P
  obtain ⟨ss, ts, G, hl⟩ := P
  rw [iterK_s]; simp only [law09_FanPlays_l0b]
  refine Gx.Wp.jn fun j21 hj => Gx.Wp.ifp (by rw [R.len]; simp; omega) ?_
  rw [decide_eq_true (by omega)]
  subst hj
  refine Gx.Wp.ifp rfl (Gx.Wp.jn fun j27 hj27 => ?_)
  obtain ⟨x, hxi⟩ := isome (l := xs) (i := i) (by omega)
  obtain ⟨v, hv⟩ := isome (l := l) (i := i) (by omega)
  have Q1 := A i x v hxi hv
  have hnv := hn v (mem_of hv)
  obtain ⟨q, q1, q2, _, _⟩ := (R.keeps G.keep).ld encF_len (by decide) hxi
  have next : ∀ H', PQ h0 top H' s r ((i + 1) * 255) 4 → Gx.Wp (j27 acts s r (i : Int) H') Q := fun H' P' => by
   subst hj27
   dsimp only
   rw [Gx.w1 (by omega)]
   exact ih (i + 1) H' (by omega) P'
  refine Gx.Wp.bnd q1 (Gx.Wp.bnd q2 (Gx.Wp.bnd rfl (Gx.Wp.new fun H1 k1 n1 g1 => Gx.Wp.stL (sp := none) g1 rfl rfl rfl (by decide) fun H2 c2 n2 g2 => ?_)))
  have k2 : Keeps H H2 := Chg.beh (T := (· = H.next)) k1 c2 fun y hy z => by omega
  have G2 := G.keeps k2
  have G2s : PQ h0 top H2 s r ((i + 1) * 255) 4 := ⟨ss, ts, G2.wk (by omega), hl⟩
  have RD := Row.keeps Q1.row G2.keep
  refine Gx.Wp.jn fun j40 hj40 => ?_
  have go : ∀ b : Bool, Gx.Wp (j40 acts s r (i : Int) (some ⟨H.next, 0, none⟩) b H2) Q := by
   intro b
   subst hj40
   cases b with
   | true => exact Gx.Wp.ifp rfl (next H2 G2s)
   | false =>
    refine Gx.Wp.ifn (fun z => by cases z) (Gx.Wp.jn fun j48 hj48 => ?_)
    unfold law09_FanPlays_l2
    obtain ⟨bot2, eb2⟩ := iterK_of (fun _ _ _ _ _ _ _ _ => none) (law09_FanPlays_l2b k (lvl k 60) j48) (show v.2.2.2.2.2.1.length + 1 ≤ k by omega)
    rw [eb2]
    refine plays_l2 bot2 (dl := x.2.2.2.2.2) g2 RD hnv.2 (fun b => ?_) v.2.2.2.2.2.1.length 0 false (by omega)
    subst hj48
    cases b with
    | true => exact Gx.Wp.ifp rfl (next H2 G2s)
    | false =>
     refine Gx.Wp.ifn (fun z => by cases z) (Gx.Wp.bnd rfl (Gx.Wp.bnd (sldI_at g2 rfl) ?_))
     obtain ⟨w, hw, ew⟩ := among4 k (lvl k 60) x.2.2.1 H2
     obtain ⟨y, hy⟩ := isome (l := ss) (i := w) (by omega)
     obtain ⟨t, ht⟩ := isome (l := ts) (i := w) (by rw [← G2.B.len]; omega)
     obtain ⟨qx, x1, x2, _⟩ := G2.S.rd.rd hy
     obtain ⟨qy, y1, y2, _⟩ := G2.R.rd.rd ht
     refine Gx.Wp.bnd ew (Gx.Wp.bnd x1 (Gx.Wp.bnd (show Gx.ldP qx H2 = some (some ⟨y.1, 0, none⟩) by simp only [Gx.ldP, x2]; rfl) (Gx.Wp.bnd y1 (Gx.Wp.bnd (show Gx.ldP qy H2 = some (some ⟨t.1, 0, none⟩) by simp only [Gx.ldP, y2]; rfl) (Gx.Wp.bnd rfl (Gx.Wp.bnd (sldI_at g2 rfl) (Gx.Wp.call (fault9 G2 hy ht x.2.2.2.1) fun r58 q58 => ?_)))))))
     obtain ⟨⟨ss1, ts1, G3, l3⟩, c3⟩ := q58
     have g3 := c3.got (by have := k2.nx; omega) (by have := G.ge; omega) g2
     refine Gx.Wp.bnd rfl (Gx.Wp.bnd (sldA_at g3 rfl) (Gx.Wp.bnd rfl ?_))
     refine Gx.Wp.call (step9 G3 x.1 x.2.1 x.2.2.1 x.2.2.2.1 x.2.2.2.2.1 (dl := x.2.2.2.2.2) Q1.row Q1.lt hnv.2 (by rw [Q1.n]; exact hnv.1) (by omega) hk) fun r62 q62 => ?_
     obtain ⟨e62, ss4, ts4, G4, l4⟩ := q62
     rw [e62]
     refine Gx.Wp.ifn (fun z => by cases z) ?_
     unfold law09_FanPlays_l1
     obtain ⟨bot1, eb1⟩ := iterK_of (fun _ _ _ _ _ _ => none) (law09_FanPlays_l1b k (lvl k 60) j27) (show 4 + 1 ≤ k by omega)
     rw [eb1]
     exact plays_l1 (D := lvl k 60) bot1 (m := i * 255 + 255) (by omega) hk (by omega) (fun H5 G5 => next H5 ⟨ss4, ts4, G5.wk (by omega), by omega⟩) 4 0 r62.2 (by omega) G4
  refine Gx.Wp.bnd (sldL_at g2 rfl) ?_
  by_cases c : 12 < v.2.2.2.2.2.1.length
  ·exact Gx.Wp.ifp (by show decide ((x.2.2.2.2.2.len : Int) > 12) = true; rw [Q1.row.1]; simp; omega) (Gx.Wp.bnd (sldL_at g2 rfl) (go _))
  ·exact Gx.Wp.ifn (by show ¬ decide ((x.2.2.2.2.2.len : Int) > 12) = true; rw [Q1.row.1]; simp; omega) (go false)
theorem fanPlays_ok {h : AHeap} {acts : Slc} {xs : List Af} {l : List actF.V} (R : RowW 6 encF h acts xs) (el : xs.length = l.length) (A : ∀ (i : Nat) (z : Af) (v : actF.V), xs[i]? = some z → l[i]? = some v → ActQ h z v) (hx : xs.length ≤ 1048576) (hn : ∀ v ∈ l, v.2.2.2.2.1.size ≤ 1048576 ∧ v.2.2.2.2.2.1.length ≤ 1048576) (hk : 400000000 ≤ k) :
  Gx.Wp (law09_FanPlays k (lvl k 60) acts h) fun z => z.1 = true := by
 simp only [law09_FanPlays]
 refine Gx.Wp.jn fun j5 hj5 => ?_
 unfold law09_FanPlays_l3
 obtain ⟨bot, eb⟩ := iterK_of (fun _ _ _ _ _ => none) (law09_FanPlays_l3b k (lvl k 60) j5) (show 4 + 1 ≤ k by omega)
 rw [eb]
 have loop : ∀ (d i : Nat) (s r : Slc) (H : AHeap) (ss : List Sb) (ts : List Tb), i + d = 4 → ss.length = i → Mk h.next 300 H s r ss ts → h.next ≤ H.next → Chg (fun y => h.next ≤ y) h H → Gx.Wp (iterK bot (d + 1) (law09_FanPlays_l3b k (lvl k 60) j5) acts s r (i : Int) H) fun z => z.1 = true := fun d => by
  induction d with
  | zero =>
   intro i s r H ss ts hd hl M hn' c
   rw [iterK_s]; simp only [law09_FanPlays_l3b]
   refine Gx.Wp.ifn (by simp; omega) ?_
   subst hj5
   refine Gx.Wp.call (works9 (by omega)) fun r6 q6 => ?_
   obtain ⟨e6, k6⟩ := q6
   rw [e6]
   refine Gx.Wp.ifn (fun z => by cases z) (Gx.Wp.jn fun j8 hj8 => ?_)
   have kH : Keeps h H := ⟨c.nx, fun x hx _ => c.oth x hx (by omega)⟩
   have G : P9 h H.next H s r 0 ss ts := ⟨M.sts (by decide), M.rts, M.bth, Nat.le_refl _, fun a ha => (M.ls ha).2, fun a ha => (M.lr ha).2, fun y hy => M.sset hy, fun y hy => M.tset hy, fun y hy => M.parts hy, kH⟩
   unfold law09_FanPlays_l0
   obtain ⟨n0, en⟩ : ∃ n0, n0 = min xs.length 30 := ⟨_, rfl⟩
   obtain ⟨bot0, eb0⟩ := iterK_of (fun _ _ _ _ _ => none) (law09_FanPlays_l0b k (lvl k 60) j8) (show n0 + 1 ≤ k by omega)
   rw [eb0]
   have P0 : PQ h H.next r6.2 s r (0 * 255) 4 := ⟨ss, ts, (G.keeps k6).wk (Nat.zero_le _), by omega⟩
   have fin : ∀ H' : AHeap, Gx.Wp (j8 H') fun z => z.1 = true := fun H' => by
    subst hj8
    exact Gx.Wp.of rfl
   clear hj8 eb0 eb
   have key := plays_l0 (k := k) (top := H.next) (s := s) (r := r) bot0 R el A hx hn hk fin n0 0 r6.2 (by omega) P0
   exact key
  | succ d ih =>
   intro i s r H ss ts hd hl M hn' c
   rw [iterK_s]; simp only [law09_FanPlays_l3b]
   refine Gx.Wp.ifp (by simp; omega) ?_
   rw [Gx.w1 (by omega)]
   have hq : 300 ≤ 1073741824 := by decide
   have hle : ss.length ≤ 1000 := by omega
   have nxt : ∀ (s' r' : Slc) (h' : AHeap) (x : Sb) (y : Tb), Mk h.next 300 h' s' r' (ss ++ [x]) (ts ++ [y]) → Chg (fun y => h.next ≤ y) H h' → Gx.Wp (iterK bot (d + 1) (law09_FanPlays_l3b k (lvl k 60) j5) acts s' r' ((i + 1 : Nat) : Int) h') fun z => z.1 = true :=
    fun s' r' h' x y M' c' => ih (i + 1) s' r' h' _ _ (by omega) (by simp [hl]) M' (by have := c'.nx; omega) (c.trans c')
   exact M.more (D := lvl k 60) (f := fun s' r' h' => iterK bot (d + 1) (law09_FanPlays_l3b k (lvl k 60) j5) acts s' r' ((i + 1 : Nat) : Int) h') hq hle hn' nxt
 exact loop 4 0 nils nils h [] [] (by omega) rfl (Mk.nil _ _ _) (Nat.le_refl _) (Chg.refl _ _)
end
end Gt
namespace Gt
open Go Gx
theorem sumL_mem : ∀ {ns : List Nat} {n : Nat}, n ∈ ns → n ≤ szV.sumL ns
 | m :: ns, n, h => by
  simp only [szV.sumL]
  rcases List.mem_cons.1 h with rfl | h
  ·omega
  ·have := sumL_mem h; omega
theorem sumL_len : ∀ {ns : List Nat}, (∀ n ∈ ns, 1 ≤ n) → ns.length ≤ szV.sumL ns
 | [], _ => Nat.le_refl _
 | m :: ns, h => by
  have h1 := h m (by simp)
  have h2 := sumL_len fun n hn => h n (List.mem_cons_of_mem _ hn)
  simp only [szV.sumL, List.length_cons]; omega
end Gt
namespace Gt
open Go Gx
theorem fanPlays_rep {k : Nat} (hk : 400000000 ≤ k) {h : AHeap} {sl : Slc} {l : List actF.V} (R : Gx.Rep h (.list actF) l [.slice sl.a sl.len sl.cap]) (z : szV (.list actF) l ≤ 1048576) : ∃ h', law09_FanPlays k (DD k) sl h = some (true, h') := by
 obtain ⟨xs, RX, el, A⟩ := actsF R
 have hq : l.length ≤ 1048576 := by
  simp only [szV] at z
  have := sumL_len (ns := l.map (szV actF)) fun n hn => by
   obtain ⟨x, _, rfl⟩ := List.mem_map.1 hn
   simp only [actF, szV]; omega
  simp only [List.length_map] at this ⊢
  omega
 have hn : ∀ v ∈ l, v.2.2.2.2.1.size ≤ 1048576 ∧ v.2.2.2.2.2.1.length ≤ 1048576 := by
  intro x hx
  simp only [szV] at z
  have h1 := sumL_mem (ns := l.map (szV actF)) (List.mem_map.2 ⟨x, hx, rfl⟩)
  have h2 := sumL_len (ns := x.2.2.2.2.2.1.map (szV .str)) fun n hn => by
   obtain ⟨t, _, rfl⟩ := List.mem_map.1 hn
   simp only [szV]; omega
  have h3 : szV actF x = 1 + (1 + (1 + (1 + ((x.2.2.2.2.1.size + 1) + ((szV.sumL (x.2.2.2.2.2.1.map (szV .str)) + 1) + 0))))) := rfl
  rw [h3] at h1
  simp only [List.length_map] at h2
  constructor <;> omega
 obtain ⟨⟨r, h'⟩, e, q⟩ := fanPlays_ok RX el A (by omega) hn hk
 obtain rfl : r = true := q
 exact ⟨h', e⟩
end Gt
