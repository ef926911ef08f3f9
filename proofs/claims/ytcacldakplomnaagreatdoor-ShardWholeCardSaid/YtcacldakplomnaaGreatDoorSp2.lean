import Derived.Laws.BitsLemmas
import Derived.Test.YtcacldakplomnaaGreatDoorSp1
namespace Gz
open Go Gx Go.Proofs
structure InM (h : AHeap) (s : Slc) (xs : List Int) : Prop where
  row : Row encI h s xs
  own : xs ≠ [] → ∃ B sp, s = whole B xs.length sp ∧ spOk sp 1 = true ∧ h.get B = some (outB encI 3 xs) ∧ B < h.next
theorem InM.chg {S : Nat → Prop} {h h' : AHeap} {s : Slc} {xs : List Int} (i : InM h s xs) (c : Chg S h h') (hs : ∀ a, s.a = some a → ¬ S a.block) : InM h' s xs :=
  ⟨i.row.chg c hs, fun hx => by
    obtain ⟨B, sp, rfl, h1, h2, h3⟩ := i.own hx
    exact ⟨B, sp, rfl, h1, by rw [c.oth B h3 (hs _ rfl)]; exact h2, Nat.lt_of_lt_of_le h3 c.nx⟩⟩
theorem InM.keeps {h h' : AHeap} {s : Slc} {xs : List Int} (i : InM h s xs) (c : Keeps h h') : InM h' s xs := i.chg c fun _ _ f => f
theorem InM.mx {h : AHeap} {s : Slc} {N : Nat} {g : Nat → Nat} (i : InM h s (matN N g)) (hN : N ≠ 0) (he : ∀ t, t < N → g t < 256) : ∃ B sp, s = whole B N sp ∧ spOk sp 1 = true ∧ Mx h B N g := by
  have hl : (matN N g).length = N := mat_length N _
  obtain ⟨B, sp, h1, h2, h3, h4⟩ := i.own (fun e => hN (by rw [← hl, e]; rfl))
  rw [hl] at h1
  exact ⟨B, sp, h1, h2, h3, h4, he⟩
theorem Mx.inM {h : AHeap} {B N : Nat} {sp : Option Nat} {g : Nat → Nat} (m : Mx h B N g) (hsp : spOk sp 1 = true) : InM h (whole B N sp) (matN N g) :=
  ⟨m.row, fun _ => ⟨B, sp, by rw [show (matN N g).length = N from mat_length N _], hsp, m.blk, m.lt⟩⟩
abbrev MRes := (Int × Int × List Int) × Int
structure Out (h h' : AHeap) (res : (Int × Int × Slc) × Int) (p : MRes) : Prop where
  r : res.1.1 = p.1.1
  c : res.1.2.1 = p.1.2.1
  code : res.2 = p.2
  inm : InM h' res.1.2.2 p.1.2.2
  off : ∀ a, res.1.2.2.a = some a → h.next ≤ a.block
def noM (code : Int) : MRes := ((0, 0, []), code)
theorem InM.nil (h : AHeap) : InM h nilS [] := ⟨Row.nil _ _ _ _, fun h => absurd rfl h⟩
theorem Out.no {h h' : AHeap} (code : Int) : Out h h' ((0, 0, nilS), code) (noM code) := ⟨rfl, rfl, rfl, .nil h', fun a ha => by cases ha⟩
theorem zfin {R : Type} {g : AHeap} {yb : Nat} {e : TypeId} (y : g.get yb = some (.cells (mcell 0 0 nilS) e true 0)) (K : (Int × Int × Slc) → AHeap → Option R) :
    ((stL 3 (⟨yb, 0, none⟩ : Addr) ([.int .i64 0, .int .i64 0, .slice none 0 0]) g).bind fun h6 => (ldA 3 (⟨yb, 0, none⟩ : Addr) h6).bind fun l7 => (decC [.i .i64, .i .i64, .l] l7).bind fun x8 => K (x8.1, x8.2.1, x8.2.2) h6) = K (0, 0, nilS) g := by
  refine bnd (stM3 (r := 0) (c := 0) (s := nilS) y rfl) ?_
  rw [set_self y]
  exact bnd (ldM3 y) (bnd (decM3 _ _ _) rfl)
def natOf (xs : List Int) : Nat → Nat := fun t => (xs[t]?.getD 0).toNat
theorem natOf_mat {N : Nat} {g : Nat → Nat} {t : Nat} (h : t < N) : natOf (matN N g) t = g t := by
  unfold natOf matN
  rw [mat_get h]; simp
def oneN (n t : Nat) : Nat := if t / n = t % n then 1 else 0
theorem oneF_N (n t : Nat) : oneF n t = (oneN n t : Int) := by
  unfold oneF oneN
  split <;> rfl
theorem steps_congr {R C C2 : Nat} (hC : 0 < C) (hC2 : 0 < C2) : ∀ (m j r : Nat) {g g' u u' : Nat → Nat}, j + m = C → r ≤ R → (∀ t, t < R * C → g t = g' t) → (∀ t, t < R * C2 → u t = u' t) →
    (stepsN R C C2 m j r g u).1 = (stepsN R C C2 m j r g' u').1 ∧ (∀ t, t < R * C → (stepsN R C C2 m j r g u).2.1 t = (stepsN R C C2 m j r g' u').2.1 t) ∧ (∀ t, t < R * C2 → (stepsN R C C2 m j r g u).2.2 t = (stepsN R C C2 m j r g' u').2.2 t)
  | 0, _, _, _, _, _, _, _, _, h1, h2 => ⟨rfl, h1, h2⟩
  | m + 1, j, r, g, g', u, u', hj, hr, h1, h2 => by
    have hj' : j < C := by omega
    simp only [stepsN]
    by_cases c : r < R
    · rw [if_pos c, if_pos c]
      have ll : ∀ n i, i + n = R → leadN C j g n i = leadN C j g' n i := by
        intro n
        induction n with
        | zero => intro i _; rfl
        | succ n ih =>
          intro i hi
          have := le_row (c := C) (show i < R by omega)
          unfold leadN
          rw [h1 (i * C + j) (by omega), ih (i + 1) (by omega)]
      rw [ll (R - r) r (by omega)]
      by_cases d : leadN C j g' (R - r) r = R
      · simp only [d, if_true]
        exact steps_congr hC hC2 m (j + 1) r (by omega) hr h1 h2
      · rw [if_neg d, if_neg d]
        have ld := leadN_le C j g' (R - r) r
        obtain ⟨l, hl⟩ : ∃ l, l = leadN C j g' (R - r) r := ⟨_, rfl⟩
        rw [← hl] at ld d ⊢
        have hl' : l < R := by omega
        have row : ∀ {d : Nat}, 0 < d → ∀ i x, i < R → x < d → i * d + x < R * d := fun {d} hc i x hi hx => by have := le_row (c := d) hi; omega
        have sw : ∀ {c : Nat} {f f' : Nat → Nat}, 0 < c → (∀ t, t < R * c → f t = f' t) → ∀ t, t < R * c → swapR c l r f t = swapR c l r f' t := fun hc hf t ht => by
          have hm := Nat.mod_lt t hc
          unfold swapR
          rw [hf _ (row hc r _ c hm), hf _ (row hc l _ hl' hm), hf t ht]
        have by' : swapR C l r g (r * C + j) = swapR C l r g' (r * C + j) := sw hC h1 _ (row hC r j c hj')
        have dv : ∀ {c : Nat} {f f' : Nat → Nat} {b : Nat}, (∀ t, t < R * c → f t = f' t) → ∀ t, t < R * c → divR c r b f t = divR c r b f' t := fun hf t ht => by unfold divR; rw [hf t ht]
        have e1 : ∀ t, t < R * C → divR C r (swapR C l r g (r * C + j)) (swapR C l r g) t = divR C r (swapR C l r g' (r * C + j)) (swapR C l r g') t := by rw [by']; exact dv (sw hC h1)
        have e2 : ∀ t, t < R * C2 → divR C2 r (swapR C l r g (r * C + j)) (swapR C2 l r u) t = divR C2 r (swapR C l r g' (r * C + j)) (swapR C2 l r u') t := by rw [by']; exact dv (sw hC2 h2)
        refine steps_congr hC hC2 m (j + 1) (r + 1) (by omega) (by omega) (fun t ht => ?_) (fun t ht => ?_)
        · unfold stepG elimG
          rw [e1 t ht, e1 _ (row hC r _ c (Nat.mod_lt t hC)), e1 _ (row hC _ j ((Nat.div_lt_iff_lt_mul hC).2 ht) hj')]
        · unfold stepU elimU
          rw [e2 t ht, e2 _ (row hC2 r _ c (Nat.mod_lt t hC2)), e1 _ (row hC _ j ((Nat.div_lt_iff_lt_mul hC2).2 ht) hj')]
    · rw [if_neg c, if_neg c]
      exact ⟨rfl, h1, h2⟩
def invP (r c : Int) (xs : List Int) : MRes := if chk r c xs ≠ 0 then noM (chk r c xs) else if r ≠ c then noM 4 else
  let R := r.toNat; let s := stepsN R R R R 0 0 (natOf xs) (oneN R)
  if s.1 < R then noM 40 else ((r, r, matN (R * R) s.2.2), 0)
theorem inverse_spec {k0 : Nat} (hk : 200000 ≤ k0) {h : AHeap} {sb fb : Nat} (S : Spc h sb fb) {r c : Int} {s : Slc} {xs : List Int} (I : InM h s xs) (hl : xs.length ≤ 100000) (ho : ∀ a, s.a = some a → a.block ≠ sb ∧ a.block ≠ fb) :
    ∃ h' res, matrix_Space_Inverse k0 (DD k0) (some ⟨sb, 0, none⟩) (r, c, s) h = some (res, h') ∧ Out h h' res (invP r c xs) ∧ Spc h' sb fb ∧ Chg (· = fb) h h' := by
  have hk' : 1000 ≤ k0 := by omega
  obtain ⟨g1, hg1⟩ : ∃ g1, g1 = h.new (.cells [.int .i64 r, .int .i64 c, .slice s.a s.len s.cap] 84 true 0) := ⟨_, rfl⟩
  have k1 : Keeps h g1 := hg1 ▸ Keeps.new h _
  have n1 : g1.next = h.next + 1 := by rw [hg1]; rfl
  obtain ⟨g2, hg2⟩ : ∃ g2, g2 = g1.new (.cells [.int .i64 0, .int .i64 0, .slice none 0 0] 84 true 0) := ⟨_, rfl⟩
  have k2 : Keeps g1 g2 := hg2 ▸ Keeps.new g1 _
  have n2 : g2.next = g1.next + 1 := by rw [hg2]; rfl
  have b2 : g2.get h.next = some (.cells (mcell r c s) 84 true 0) := by rw [k2.oth _ (by omega) (fun f => f), hg1]; simp [mcell]
  have y2 : g2.get g1.next = some (.cells (mcell 0 0 nilS) 84 true 0) := by rw [hg2]; simp [mcell, nilS]
  have I2 := I.keeps (k1.trans k2)
  obtain ⟨g3, e3, k3⟩ := mcheck_spec (k0 := k0) (DD k0) (r := r) (c := c) I2.row (by omega) (by omega)
  have k03 := (k1.trans k2).trans k3
  have b3 : g3.get h.next = some (.cells (mcell r c s) 84 true 0) := by rw [k3.oth _ (by omega) (fun f => f)]; exact b2
  have y3 : g3.get g1.next = some (.cells (mcell 0 0 nilS) 84 true 0) := by rw [k3.oth _ (by omega) (fun f => f)]; exact y2
  have S3 := S.keeps k03
  have I3 := I2.keeps k3
  have start : ∀ {X : Option (((Int × Int × Slc) × Int) × AHeap)}, ((fun (r5 : Int × AHeap) => if (r5.1 != 0) = true then
      (stL 3 (⟨g1.next, 0, none⟩ : Addr) ([.int .i64 0, .int .i64 0, .slice none 0 0]) r5.2).bind fun h6 => (ldA 3 (⟨g1.next, 0, none⟩ : Addr) h6).bind fun l7 => (decC [.i .i64, .i .i64, .l] l7).bind fun x8 => some (((x8.1, x8.2.1, x8.2.2), r5.1), h6)
      else X) (chk r c xs, g3)) = if chk r c xs ≠ 0 then some (((0, 0, nilS), chk r c xs), g3) else X := fun {X} => by
    by_cases e : chk r c xs = 0
    · rw [if_neg (fun h => h e)]
      exact ifn (by simp [e]) rfl
    · rw [if_pos e]
      exact ifp (by simpa using e) (zfin y3 fun x h => some ((x, chk r c xs), h))
  by_cases ec : chk r c xs = 0
  · obtain ⟨R, C, g, rfl, rfl, hR1, hR2, hC1, hC2, hxs, hel⟩ := chk_ok ec
    by_cases erc : R = C
    · -- square
      subst erc
      have hN : R * R ≠ 0 := by have := Nat.mul_pos hR1 hR1; omega
      have hN2 : R * R ≤ 100000 := Nat.le_trans (Nat.mul_le_mul hR2 hR2) (by omega)
      rw [hxs] at I3
      obtain ⟨B, sp, rfl, hsp, m3⟩ := I3.mx hN hel
      obtain ⟨g4, OB, e4, M4⟩ := one_spec hk' (DD k0) (h := g3) (n := R) hR1 hR2
      have k4 := M4.ch
      obtain ⟨g5, st5, k5, n5, b5⟩ := mvar (h := g4) (e := 84) (r := (R : Int)) (c := (R : Int)) (s := whole OB (R * R))
      have m5 := (m3.keeps k4).keeps k5
      have b5' : g5.get h.next = some (.cells (mcell R R (whole B (R * R) sp)) 84 true 0) := by
        rw [k5.oth _ (by have := k4.nx; have := k3.nx; omega) (fun f => f), k4.oth _ (by have := k3.nx; omega) (fun f => f)]; exact b3
      obtain ⟨g6, CB, e6, k6, cb6, m6⟩ := clone_spec (k0 := k0) (DD k0) (R := R) (C := R) (sp := sp) m5 hN hN2
      have o5 : Mx g5 OB (R * R) (oneN R) := by
        have q : Mx g4 OB (R * R) (oneN R) := ⟨by rw [M4.blk]; unfold matN; rw [mat_ext fun t _ => oneF_N R t], M4.lb, fun t _ => by unfold oneN; split <;> omega⟩
        exact q.keeps k5
      have o6 := o5.keeps k6
      have lob := M4.lb
      have nob := M4.nb
      have nx3 := k3.nx
      have nx4 := k4.nx
      have ls := S.ls
      have lf := S.lf
      have S6 := ((S3.keeps k4).keeps k5).keeps k6
      have b6 : g6.get g4.next = some (.cells (mcell R R (whole OB (R * R))) 84 true 0) := by rw [k6.oth _ (by omega) (fun f => f)]; exact b5
      obtain ⟨g7, e7, a7, u7, S7, c7, l7⟩ := steps_spec hk' (h := g6) (B := CB) (B2 := OB) (sb := sb) (fb := fb) (R := R) (C := R) (C2 := R) (sp := some 2) (sp2 := some 0) rfl rfl hR1 hR1 hR2 hR2 hR2 m6 o6 S6 (by omega) (by omega) (by omega) (by omega) (by omega)
      obtain ⟨st, hst⟩ : ∃ st, st = stepsN R R R R 0 0 g (oneN R) := ⟨_, rfl⟩
      rw [← hst] at e7 a7 u7 l7
      have sc := steps_congr (R := R) hR1 hR1 R 0 0 (g := natOf xs) (g' := g) (u := oneN R) (u' := oneN R) (by omega) (by omega) (fun t ht => by rw [hxs]; exact natOf_mat ht) (fun _ _ => rfl)
      rw [← hst] at sc
      have nx6 := k6.nx
      have b7 : g7.get h.next = some (.cells (mcell R R (whole B (R * R) sp)) 84 true 0) := by
        rw [c7.oth _ (by omega) (by rintro (e | e | e) <;> omega), k6.oth _ (by omega) (fun f => f)]; exact b5'
      have y7 : g7.get g1.next = some (.cells (mcell 0 0 nilS) 84 true 0) := by
        rw [c7.oth _ (by omega) (by rintro (e | e | e) <;> omega), k6.oth _ (by omega) (fun f => f), k5.oth _ (by omega) (fun f => f), k4.oth _ (by omega) (fun f => f)]; exact y3
      have o7 : g7.get g4.next = some (.cells (mcell R R (whole OB (R * R))) 84 true 0) := by
        rw [c7.oth _ (by omega) (by rintro (e | e | e) <;> omega)]; exact b6
      have c07 : Chg (· = fb) h g7 := (Chg.keeps (((k03.trans k4).trans k5).trans k6)).beh c7 fun x hx e => by
        rcases e with e | e | e
        · omega
        · omega
        · exact e
      have prog : ∀ res g', ((if (decide ((st.1 : Int) < (R : Int))) = true then
          (stL 3 (⟨g1.next, 0, none⟩ : Addr) ([.int .i64 0, .int .i64 0, .slice none 0 0]) g7).bind fun h29 => (ldA 3 (⟨g1.next, 0, none⟩ : Addr) h29).bind fun l30 => (decC [.i .i64, .i .i64, .l] l30).bind fun x31 => some (((x31.1, x31.2.1, x31.2.2), (40 : Int)), h29)
          else
          (ldA 3 (⟨g4.next, 0, none⟩ : Addr) g7).bind fun l32 => (decC [.i .i64, .i .i64, .l] l32).bind fun x33 =>
          (stL 3 (⟨g1.next, 0, none⟩ : Addr) ([.int .i64 x33.1, .int .i64 x33.2.1, .slice x33.2.2.a x33.2.2.len x33.2.2.cap]) g7).bind fun h34 =>
          (ldA 3 (⟨g1.next, 0, none⟩ : Addr) h34).bind fun l35 => (decC [.i .i64, .i .i64, .l] l35).bind fun x36 => some (((x36.1, x36.2.1, x36.2.2), (0 : Int)), h34)) = some (res, g')) →
          matrix_Space_Inverse k0 (DD k0) (some ⟨sb, 0, none⟩) (R, R, whole B (R * R) sp) h = some (res, g') := fun res g' hfin => by
        unfold matrix_Space_Inverse
        dsimp only
        rw [← hg1, ← hg2]
        refine bnd (ldM3 b2) (bnd (decM3 _ _ _) (bnd e3 ?_))
        refine ifn (by simp [ec]) ?_
        refine bnd (ldI0 b3) (bnd (ldI1 b3) ?_)
        refine ifn (by simp) ?_
        refine bnd (ldI0 b3) (bnd e4 (bnd st5 ?_))
        refine bnd (ldM3 b5') (bnd (decM3 _ _ _) (bnd e6 ?_))
        refine bnd (ldM3 b6) ?_
        refine gp (fun H hH => by simp at hH; subst hH; exact bnd (ldM3 b5) rfl) ?_
        refine bnd (decM3 _ _ _) (bnd e7 ?_)
        refine bnd (ldI0 b7) ?_
        refine gp (fun H hH => by
          simp at hH
          rcases hH with rfl | rfl
          · exact bnd (ldI0 (by rw [k6.oth _ (by omega) (fun f => f)]; exact b5')) rfl
          · exact bnd (ldI0 b5') rfl) ?_
        exact hfin
      by_cases el : st.1 < R
      · refine ⟨g7, ((0, 0, nilS), 40), prog _ _ (ifp (by rw [decide_eq_true_eq]; omega) (zfin y7 fun x h => some ((x, (40 : Int)), h))), ?_, S7, c07⟩
        unfold invP
        rw [if_neg (fun h => h ec), if_neg (fun h => h rfl)]
        dsimp only
        rw [Int.toNat_natCast, if_pos (by rw [sc.1]; exact el)]
        exact Out.no 40
      · obtain ⟨g8, hg8⟩ : ∃ g8, g8 = g7.set g1.next (.cells (mcell R R (whole OB (R * R))) 84 true 0) := ⟨_, rfl⟩
        have nx7 := c7.nx
        have u8 : Mx g8 OB (R * R) st.2.2 := u7.chg (S := (· = g1.next)) (hg8 ▸ Chg.set (.inr rfl)) (by omega)
        refine ⟨g8, ((R, R, whole OB (R * R)), 0), prog _ _ ?_, ?_, S7.chg (S := (· = g1.next)) (hg8 ▸ Chg.set (.inr rfl)) (by omega) (by omega), c07.beh (T := (· = g1.next)) (hg8 ▸ Chg.set (.inr rfl)) fun x hx e => by
          have e : x = g1.next := e
          omega⟩
        · refine ifn (by rw [decide_eq_true_eq]; omega) ?_
          refine bnd (ldM3 o7) (bnd (decM3 _ _ _) ?_)
          refine bnd (stM3 (r := R) (c := R) (s := whole OB (R * R)) y7 rfl) ?_
          rw [← hg8]
          refine bnd (ldM3 (r := R) (c := R) (s := whole OB (R * R)) (e := 84) (rw' := true) (fz := 0) (by rw [hg8]; simp)) ?_
          exact bnd (decM3 _ _ _) rfl
        · unfold invP
          rw [if_neg (fun h => h ec), if_neg (fun h => h rfl)]
          dsimp only
          rw [Int.toNat_natCast, if_neg (by rw [sc.1]; exact el)]
          refine ⟨rfl, rfl, rfl, ?_, whole_off (by omega)⟩
          have := (u8.congr fun t ht => (sc.2.2 t ht).symm).inM (sp := some 0) rfl
          exact this
    · -- not square
      refine ⟨g3, ((0, 0, nilS), 4), ?_, ?_, S3, Chg.keeps k03⟩
      · unfold matrix_Space_Inverse
        dsimp only
        rw [← hg1, ← hg2]
        refine bnd (ldM3 b2) (bnd (decM3 _ _ _) (bnd e3 ?_))
        refine ifn (by simp [ec]) ?_
        refine bnd (ldI0 b3) (bnd (ldI1 b3) ?_)
        refine ifp (by simp; omega) ?_
        exact zfin y3 fun x h => some ((x, (4 : Int)), h)
      · unfold invP
        rw [if_neg (fun h => h ec), if_pos (by omega)]
        exact Out.no 4
  · refine ⟨g3, ((0, 0, nilS), chk r c xs), ?_, ?_, S3, Chg.keeps k03⟩
    · unfold matrix_Space_Inverse
      dsimp only
      rw [← hg1, ← hg2]
      refine bnd (ldM3 b2) (bnd (decM3 _ _ _) (bnd e3 ?_))
      refine ifp (by simpa using ec) ?_
      exact zfin y3 fun x h => some ((x, chk r c xs), h)
    · unfold invP
      rw [if_pos ec]
      exact Out.no _
end Gz
namespace Gz
open Go Gx Go.Proofs
structure Dist3 (O BA BB oa ob oo sb fb : Nat) : Prop where
  oBA : O ≠ BA
  oBB : O ≠ BB
  ooa : O ≠ oa
  oob : O ≠ ob
  ooo : O ≠ oo
  osb : O ≠ sb
  ofb : O ≠ fb
  fBA : BA ≠ fb
  fBB : BB ≠ fb
  foa : oa ≠ fb
  fob : ob ≠ fb
  foo : oo ≠ fb
structure S3 (H0 : AHeap) (O BA BB oa ob oo sb fb R C C2 : Nat) (sa sb' : Option Nat) (ga gb f : Nat → Nat) (h : AHeap) : Prop where
  a : Mx h BA (R * C) ga
  b : Mx h BB (C * C2) gb
  o : Mx h O (R * C2) f
  ca : h.get oa = some (.cells (mcell R C (whole BA (R * C) sa)) 84 true 0)
  cb : h.get ob = some (.cells (mcell C C2 (whole BB (C * C2) sb')) 84 true 0)
  co : h.get oo = some (.cells (mcell R C2 (whole O (R * C2))) 84 true 0)
  spc : Spc h sb fb
  la : oa < h.next
  lb : ob < h.next
  lo : oo < h.next
  ch : Chg (BF O fb) H0 h
section
variable {H0 : AHeap} {O BA BB oa ob oo sb fb R C C2 : Nat} {sa sb' : Option Nat} {ga gb f f' : Nat → Nat} {h h' : AHeap}
theorem S3.keeps (s : S3 H0 O BA BB oa ob oo sb fb R C C2 sa sb' ga gb f h) (k : Keeps h h') : S3 H0 O BA BB oa ob oo sb fb R C C2 sa sb' ga gb f h' :=
  ⟨s.a.keeps k, s.b.keeps k, s.o.keeps k, by rw [k.oth _ s.la (fun f => f)]; exact s.ca, by rw [k.oth _ s.lb (fun f => f)]; exact s.cb, by rw [k.oth _ s.lo (fun f => f)]; exact s.co, s.spc.keeps k, Nat.lt_of_lt_of_le s.la k.nx, Nat.lt_of_lt_of_le s.lb k.nx, Nat.lt_of_lt_of_le s.lo k.nx, s.ch.trans (Chg.keeps k)⟩
theorem S3.op (D : Dist3 O BA BB oa ob oo sb fb) (s : S3 H0 O BA BB oa ob oo sb fb R C C2 sa sb' ga gb f h) (r : Row1 h h' O (R * C2) sb fb f') : S3 H0 O BA BB oa ob oo sb fb R C C2 sa sb' ga gb f' h' :=
  ⟨s.a.chg r.ch (fun e => e.elim (fun e => D.oBA e.symm) D.fBA), s.b.chg r.ch (fun e => e.elim (fun e => D.oBB e.symm) D.fBB), r.mx, by rw [r.ch.oth _ s.la (fun e => e.elim (fun e => D.ooa e.symm) D.foa)]; exact s.ca, by rw [r.ch.oth _ s.lb (fun e => e.elim (fun e => D.oob e.symm) D.fob)]; exact s.cb,
    by rw [r.ch.oth _ s.lo (fun e => e.elim (fun e => D.ooo e.symm) D.foo)]; exact s.co, r.spc, Nat.lt_of_lt_of_le s.la r.ch.nx, Nat.lt_of_lt_of_le s.lb r.ch.nx, Nat.lt_of_lt_of_le s.lo r.ch.nx, s.ch.trans r.ch⟩
theorem S3.congr (s : S3 H0 O BA BB oa ob oo sb fb R C C2 sa sb' ga gb f h) (e : ∀ t, t < R * C2 → f t = f' t) : S3 H0 O BA BB oa ob oo sb fb R C C2 sa sb' ga gb f' h :=
  ⟨s.a, s.b, s.o.congr e, s.ca, s.cb, s.co, s.spc, s.la, s.lb, s.lo, s.ch⟩
end
end Gz
namespace Gz
open Go Gx Go.Proofs
theorem sbn {α β : Type} {x : α} {K : α → Option β} {r : Option β} (k : K x = r) : (some x).bind K = r := k
theorem gp1 {R : Type} {a : AHeap} {f : AHeap → Option Value} {v : Value} {x r : Option R} (h1 : f a = some v) (k : x = r) : guardP (SameW [a] f v) x = r := gp (fun H hH => by simp at hH; subst hH; exact h1) k
theorem gp2 {R : Type} {a b : AHeap} {f : AHeap → Option Value} {v : Value} {x r : Option R} (h1 : f a = some v) (h2 : f b = some v) (k : x = r) : guardP (SameW [a, b] f v) x = r := gp (fun H hH => by
  simp at hH; rcases hH with rfl | rfl <;> assumption) k
theorem gp3 {R : Type} {a b c : AHeap} {f : AHeap → Option Value} {v : Value} {x r : Option R} (h1 : f a = some v) (h2 : f b = some v) (h3 : f c = some v) (k : x = r) : guardP (SameW [a, b, c] f v) x = r := gp (fun H hH => by
  simp at hH; rcases hH with rfl | rfl | rfl <;> assumption) k
theorem ldZ0 {h : AHeap} {b : Nat} {sp : Option Nat} {c : List Value} {e : TypeId} {rw' : Bool} {fz : Nat} {k : IntKind} {x : Int} (hb : h.get b = some (.cells (.int k x :: c) e rw' fz)) : ldI k ⟨b, 0, sp⟩ h = some x := ldI_of hb rfl
theorem ldZ1 {h : AHeap} {b : Nat} {sp : Option Nat} {v : Value} {c : List Value} {e : TypeId} {rw' : Bool} {fz : Nat} {k : IntKind} {x : Int} (hb : h.get b = some (.cells (v :: .int k x :: c) e rw' fz)) : ldI k ⟨b, 1, sp⟩ h = some x := ldI_of hb rfl
theorem ldZ2 {h : AHeap} {b : Nat} {sp : Option Nat} {v w : Value} {c : List Value} {e : TypeId} {rw' : Bool} {fz : Nat} {k : IntKind} {x : Int} (hb : h.get b = some (.cells (v :: w :: .int k x :: c) e rw' fz)) : ldI k ⟨b, 2, sp⟩ h = some x := ldI_of hb rfl
structure SI (H0 : AHeap) (B ob R C : Nat) (sp : Option Nat) (g : Nat → Nat) (h : AHeap) : Prop where
  m : Mx h B (R * C) g
  c : h.get ob = some (.cells (mcell R C (whole B (R * C) sp)) 97 true 0)
  lo : ob < h.next
  ne : ob ≠ B
  ch : Chg (· = B) H0 h
section
variable {H0 : AHeap} {B ob R C : Nat} {sp : Option Nat} {g g' : Nat → Nat} {h h' : AHeap}
theorem SI.keeps (s : SI H0 B ob R C sp g h) (k : Keeps h h') : SI H0 B ob R C sp g h' :=
  ⟨s.m.keeps k, by rw [k.oth _ s.lo (fun f => f)]; exact s.c, Nat.lt_of_lt_of_le s.lo k.nx, s.ne, s.ch.trans (Chg.keeps k)⟩
theorem SI.congr (s : SI H0 B ob R C sp g h) (e : ∀ t, t < R * C → g t = g' t) : SI H0 B ob R C sp g' h := ⟨s.m.congr e, s.c, s.lo, s.ne, s.ch⟩
theorem SI.wr (s : SI H0 B ob R C sp g h) {t x : Nat} (ht : t < R * C) (hx : x < 256) : ∃ h', st1 ⟨B, t, none⟩ (.int .i64 (x : Int)) h = some h' ∧ SI H0 B ob R C sp (updN g t x) h' := by
  obtain ⟨e, m⟩ := s.m.wr (sp := none) ht hx
  exact ⟨_, e, m, by simp [s.ne]; exact s.c, s.lo, s.ne, s.ch.trans (Chg.set (.inr rfl))⟩
end
end Gz
namespace Gz
open Go Gx Go.Proofs
theorem yfin {R : Type} {g : AHeap} {yb ob : Nat} {e e' : TypeId} {r c : Int} {s : Slc} (co : g.get ob = some (.cells (mcell r c s) e' true 0)) (y : g.get yb = some (.cells (mcell 0 0 nilS) e true 0)) (K : (Int × Int × Slc) → AHeap → Option R) :
    ((some (⟨ob, 0, none⟩ : Addr)).bind fun p18 => (ldA 3 p18 g).bind fun l19 => (decC [.i .i64, .i .i64, .l] l19).bind fun x20 => (some (⟨yb, 0, none⟩ : Addr)).bind fun p21 =>
      (stL 3 p21 ([.int .i64 x20.1, .int .i64 x20.2.1, .slice x20.2.2.a x20.2.2.len x20.2.2.cap]) g).bind fun h22 => (some (⟨yb, 0, none⟩ : Addr)).bind fun p23 => (ldA 3 p23 h22).bind fun l24 => (decC [.i .i64, .i .i64, .l] l24).bind fun x25 => K (x25.1, x25.2.1, x25.2.2) h22) =
      K (r, c, s) (g.set yb (.cells (mcell r c s) e true 0)) := by
  with_reducible repeat' first | refine sbn ?_ | refine bnd (ldM3 (by assumption)) ?_ | refine bnd (decM3 _ _ _) ?_ | refine bnd (ldI0 (by assumption)) ?_ | refine bnd (ldI1 (by assumption)) ?_ | refine bnd (ldL2 (by assumption)) ?_ | refine jn ?_ | refine gp1 ?_ ?_ | refine gp2 ?_ ?_ ?_ | refine gp3 ?_ ?_ ?_ ?_ | refine bnd (ldZ0 (by assumption)) ?_ | refine bnd (ldZ1 (by assumption)) ?_ | refine bnd (ldZ2 (by assumption)) ?_ | rfl
  refine bnd (stM3 (r := r) (c := c) (s := s) y rfl) ?_
  have : (g.set yb (.cells (mcell r c s) e true 0)).get yb = some (.cells (mcell r c s) e true 0) := by simp
  with_reducible repeat' first | refine sbn ?_ | refine bnd (ldM3 (by assumption)) ?_ | refine bnd (decM3 _ _ _) ?_ | refine bnd (ldI0 (by assumption)) ?_ | refine bnd (ldI1 (by assumption)) ?_ | refine bnd (ldL2 (by assumption)) ?_ | refine jn ?_ | refine gp1 ?_ ?_ | refine gp2 ?_ ?_ ?_ | refine gp3 ?_ ?_ ?_ ?_ | refine bnd (ldZ0 (by assumption)) ?_ | refine bnd (ldZ1 (by assumption)) ?_ | refine bnd (ldZ2 (by assumption)) ?_ | rfl
structure In1 (h : AHeap) (O ob R C : Nat) (s : Slc) (e : TypeId) (g : Nat → Nat) : Prop where
  row : Row encI h s (matN (R * C) g)
  cel : h.get ob = some (.cells (mcell R C s) e true 0)
  lt : ob < h.next
  ne : ob ≠ O
  ap : ∀ a, s.a = some a → ¬ a.block = O
  el : ∀ t, t < R * C → g t < 256
structure Ou1 (H0 : AHeap) (O oo R C : Nat) (e : TypeId) (f : Nat → Nat) (h : AHeap) : Prop where
  o : Mx h O (R * C) f
  cel : h.get oo = some (.cells (mcell R C (whole O (R * C))) e true 0)
  lt : oo < h.next
  ne : oo ≠ O
  ch : Chg (· = O) H0 h
section
variable {H0 : AHeap} {O ob R C : Nat} {s : Slc} {e : TypeId} {f f' g : Nat → Nat} {h h' : AHeap}
theorem In1.chg (i : In1 h O ob R C s e g) (c : Chg (· = O) h h') : In1 h' O ob R C s e g :=
  ⟨i.row.chg c i.ap, by rw [c.oth _ i.lt i.ne]; exact i.cel, Nat.lt_of_lt_of_le i.lt c.nx, i.ne, i.ap, i.el⟩
theorem In1.keeps (i : In1 h O ob R C s e g) (c : Keeps h h') : In1 h' O ob R C s e g := i.chg (Chg.keeps c)
theorem Ou1.keeps (i : Ou1 H0 O ob R C e f h) (c : Keeps h h') : Ou1 H0 O ob R C e f h' :=
  ⟨i.o.keeps c, by rw [c.oth _ i.lt (fun f => f)]; exact i.cel, Nat.lt_of_lt_of_le i.lt c.nx, i.ne, i.ch.trans (Chg.keeps c)⟩
theorem Ou1.congr (i : Ou1 H0 O ob R C e f h) (q : ∀ t, t < R * C → f t = f' t) : Ou1 H0 O ob R C e f' h := ⟨i.o.congr q, i.cel, i.lt, i.ne, i.ch⟩
theorem Ou1.wr (S : Ou1 H0 O ob R C e f h) {t x : Nat} (ht : t < R * C) (hx : x < 256) : ∃ h', st1 ⟨O, t, none⟩ (.int .i64 (x : Int)) h = some h' ∧ Ou1 H0 O ob R C e (updN f t x) h' ∧ Chg (· = O) h h' := by
  obtain ⟨q, m⟩ := S.o.wr (sp := none) ht hx
  exact ⟨_, q, ⟨m, by simp [S.ne]; exact S.cel, S.lt, S.ne, S.ch.trans (Chg.set (.inr rfl))⟩, Chg.set (.inr rfl)⟩
end
section
variable {k0 : Nat} {H0 : AHeap} {O oa ob oo R C C2 : Nat} {sA sB : Slc} {ga gb f : Nat → Nat}
end
theorem row_lt {h : AHeap} {s : Slc} {xs : List Int} (R : Row encI h s xs) (hx : xs ≠ []) : ∀ a, s.a = some a → a.block < h.next := by
  intro a ha
  obtain ⟨x, hx⟩ := isome (l := xs) (i := 0) (by cases xs with | nil => exact absurd rfl hx | cons _ _ => simp)
  obtain ⟨q, hq, _, hlt, a', ha', hb⟩ := R.rd hx
  rw [ha] at ha'
  cases ha'
  omega
theorem matN_ne {N : Nat} {g : Nat → Nat} (h : N ≠ 0) : matN N g ≠ [] := fun e => h (by rw [← mat_length N fun t => (g t : Int)]; exact congrArg List.length e)
end Gz
namespace Gz
open Go Gx Go.Proofs
def turnF (R C : Nat) (g : Nat → Nat) : Nat → Nat := fun t => g (t % R * C + t / R)
def cf (R i j : Nat) (F : Nat → Nat) : Nat → Nat := fun t => if t % R < i ∨ (t % R = i ∧ t / R < j) then F t else 0
theorem turnF_at {R C i j : Nat} {g : Nat → Nat} (hi : i < R) : turnF R C g (j * R + i) = g (i * C + j) := by
  unfold turnF; rw [pos_div hi, pos_mod hi]
section
variable {k0 : Nat} {H0 : AHeap} {O oa oo R C BA : Nat} {sA : Slc} {sp : Option Nat} {g : Nat → Nat}
end
end Gz
namespace Gz
open Go Gx Go.Proofs
def okR (R : Nat) (x : Int) : Bool := !(decide (x < 0) || decide (x ≥ (R : Int)))
def pickF (C : Nat) (g : Nat → Nat) (w : Nat → Nat) : Nat → Nat := fun t => g (w (t / C) * C + t % C)
def pickP (r c : Int) (xs rows : List Int) : MRes := if chk r c xs ≠ 0 then noM (chk r c xs) else if rows.length = 0 ∨ rows.length > 255 then noM 1 else if rows.all (okR r.toNat) then
  ((rows.length, c, matN (rows.length * c.toNat) (pickF c.toNat (natOf xs) (natOf rows))), 0) else noM 1
theorem pickF_at {C i j : Nat} {g w : Nat → Nat} (hj : j < C) : pickF C g w (i * C + j) = g (w i * C + j) := by
  unfold pickF; rw [pos_div hj, pos_mod hj]
theorem okR_nat {R : Nat} {rows : List Int} (h : rows.all (okR R) = true) {i : Nat} (hi : i < rows.length) : rows[i]? = some (natOf rows i : Int) ∧ natOf rows i < R := by
  obtain ⟨x, hx⟩ := isome hi
  have := List.all_eq_true.1 h x (mem_of hx)
  simp only [okR, Bool.not_eq_true', Bool.or_eq_false_iff, decide_eq_false_iff_not] at this
  unfold natOf
  rw [hx]
  simp
  omega
theorem all_at {R i : Nat} {rows : List Int} {x : Int} (hx : rows[i]? = some x) : (rows.drop i).all (okR R) = (okR R x && (rows.drop (i + 1)).all (okR R)) := by rw [dropc hx]; rfl
section
variable {k0 : Nat} {H0 : AHeap} {O oa oo R C : Nat} {sA rs : Slc} {rows : List Int} {g : Nat → Nat}
theorem mat_add (a b : Nat) (f : Nat → Int) : mat (a + b) f = mat a f ++ mat b (fun t => f (a + t)) := by
  unfold mat
  rw [List.range_add, List.map_append, List.map_map]; rfl
theorem matN_row {C i : Nat} {F u : Nat → Nat} (h : ∀ x, x < C → F (i * C + x) = u x) : matN (i * C) F ++ matN C u = matN ((i + 1) * C) F := by
  unfold matN
  rw [Nat.succ_mul, mat_add]
  congr 1
  exact mat_congr fun t ht => by rw [h t ht]
theorem row_row {h : AHeap} {B i : Nat} (hb : h.get B = some (outB encI 3 (matN (R * C) g))) (hB : B < h.next) (hi : i < R) : Row encI h (rowOf B C i) (matN C fun x => g (i * C + x)) := by
  have p := le_row (c := C) hi
  have := Row.of_block (enc := encI) (xs := matN C fun x => g (i * C + x)) (o := i * C) (sp := some 0) (cap := C) hb hB fun t x hx => by
    have ht : t < C := by have := (List.getElem?_eq_some_iff.1 hx).1; unfold matN at this; rw [mat_length] at this; exact this
    unfold matN at hx ⊢
    rw [mat_get ht] at hx
    cases hx
    rw [List.getElem?_map, mat_get (by omega)]
    rfl
  unfold rowOf
  rw [show (matN C fun x => g (i * C + x)).length = C from mat_length _ _] at this
  exact this
theorem stS2 {h : AHeap} {b : Nat} {e : TypeId} {r c : Int} {s s' : Slc} {sp : Option Nat} (hb : h.get b = some (.cells (mcell r c s) e true 0)) : st1 ⟨b, 2, sp⟩ (.slice s'.a s'.len s'.cap) h = some (h.set b (.cells (mcell r c s') e true 0)) := by
  rw [st1_of hb (by simp [mcell]) rfl]
  rfl
structure PK (H0 : AHeap) (base oo C n : Nat) (w : Nat → Nat) (g : Nat → Nat) (i : Nat) (h : AHeap) (s : Slc) : Prop where
  ch : Chg (fun x => base ≤ x) H0 h
  co : h.get oo = some (.cells (mcell n C s) 84 true 0)
  lo : oo < h.next
  bo : base ≤ oo
  acc : (s = nilS ∧ i = 0) ∨ ∃ b, Grown encI 3 h b s (matN (i * C) (pickF C g w)) ∧ base ≤ b ∧ b < h.next ∧ b ≠ oo
theorem mpick_l0 (D : CallF) {BA sp base yb} (hsp : spOk sp 1 = true) (hC1 : 0 < C) (hC : C ≤ 255) (hR : R ≤ 255) (hl : rows.length ≤ 255) (Rr : Row encI H0 rs rows)
    (ca : H0.get oa = some (.cells (mcell R C (whole BA (R * C) sp)) 84 true 0)) (y : H0.get yb = some (.cells (mcell 0 0 nilS) 84 true 0)) (bA : H0.get BA = some (outB encI 3 (matN (R * C) g)))
    (hbase : base ≤ H0.next) (l1 : oa < base) (l2 : yb < base) (l3 : BA < base) (l4 : ∀ a, rs.a = some a → a.block < base) : ∀ (m i : Nat) (h : AHeap) (s : Slc), i + m = rows.length → PK H0 base oo C rows.length (natOf rows) g i h s →
    ∃ h', Chg (fun x => base ≤ x) H0 h' ∧ if (rows.drop i).all (okR R) = true then ∃ s', PK H0 base oo C rows.length (natOf rows) g rows.length h' s' ∧ ∀ J bot, iterK bot (m + 1) (matrix_Pick_l0b k0 D J) (some ⟨oa, 0, none⟩) (some ⟨yb, 0, none⟩) (some ⟨oo, 0, none⟩) rs (rows.length : Int) (i : Int) h = J (some ⟨yb, 0, none⟩) (some ⟨oo, 0, none⟩) h'
      else ∀ J bot, iterK bot (m + 1) (matrix_Pick_l0b k0 D J) (some ⟨oa, 0, none⟩) (some ⟨yb, 0, none⟩) (some ⟨oo, 0, none⟩) rs (rows.length : Int) (i : Int) h = some (((0, 0, nilS), 1), h') := by
  intro m
  have hs : R * C ≤ 100000 := Nat.le_trans (Nat.mul_le_mul hR hC) (by omega)
  have hs2 : rows.length * C ≤ 100000 := Nat.le_trans (Nat.mul_le_mul hl hC) (by omega)
  induction m with
  | zero =>
    intro i h s hi P
    obtain rfl : i = rows.length := by omega
    refine ⟨h, P.ch, ?_⟩
    rw [List.drop_length, if_pos (show (([] : List Int).all (okR R)) = true from rfl)]
    refine ⟨s, P, fun J bot => ?_⟩
    rw [iterK_s, matrix_Pick_l0b]
    exact ifn (by rw [decide_eq_true_eq]; omega) rfl
  | succ m ih =>
    intro i h s hi P
    have hi' : i < rows.length := by omega
    obtain ⟨x, hx⟩ := isome (l := rows) (i := i) (by omega)
    have old : ∀ {h : AHeap} {b : Nat} {B : ABlk}, Chg (fun x => base ≤ x) H0 h → H0.get b = some B → b < base → h.get b = some B := fun c hb lb => by rw [c.oth _ (by omega) (by omega)]; exact hb
    have rr := Rr.chg P.ch (fun a ha => by have := l4 a ha; omega)
    obtain ⟨q, hq, hld⟩ := rr.ldI hx
    have ca0 := old P.ch ca l1
    have y0 := old P.ch y l2
    rw [all_at hx]
    by_cases c1 : x < 0
    · refine ⟨h, P.ch, ?_⟩
      rw [if_neg (by simp [okR, c1])]
      intro J bot
      rw [iterK_s, matrix_Pick_l0b]
      refine ifp (by rw [decide_eq_true_eq]; omega) ?_
      refine bnd hq (bnd hld ?_)
      with_reducible repeat' first | refine sbn ?_ | refine bnd (ldM3 (by assumption)) ?_ | refine bnd (decM3 _ _ _) ?_ | refine bnd (ldI0 (by assumption)) ?_ | refine bnd (ldI1 (by assumption)) ?_ | refine bnd (ldL2 (by assumption)) ?_ | refine jn ?_ | refine gp1 ?_ ?_ | refine gp2 ?_ ?_ ?_ | refine gp3 ?_ ?_ ?_ ?_ | refine bnd (ldZ0 (by assumption)) ?_ | refine bnd (ldZ1 (by assumption)) ?_ | refine bnd (ldZ2 (by assumption)) ?_ | rfl
      refine ifp (by rw [decide_eq_true_eq]; exact c1) (ifp rfl ?_)
      exact zfin y0 fun x h => some ((x, (1 : Int)), h)
    · by_cases c2 : x ≥ (R : Int)
      · refine ⟨h, P.ch, ?_⟩
        rw [if_neg (by simp [okR, c2])]
        intro J bot
        rw [iterK_s, matrix_Pick_l0b]
        refine ifp (by rw [decide_eq_true_eq]; omega) ?_
        refine bnd hq (bnd hld ?_)
        with_reducible repeat' first | refine sbn ?_ | refine bnd (ldM3 (by assumption)) ?_ | refine bnd (decM3 _ _ _) ?_ | refine bnd (ldI0 (by assumption)) ?_ | refine bnd (ldI1 (by assumption)) ?_ | refine bnd (ldL2 (by assumption)) ?_ | refine jn ?_ | refine gp1 ?_ ?_ | refine gp2 ?_ ?_ ?_ | refine gp3 ?_ ?_ ?_ ?_ | refine bnd (ldZ0 (by assumption)) ?_ | refine bnd (ldZ1 (by assumption)) ?_ | refine bnd (ldZ2 (by assumption)) ?_ | rfl
        refine ifn (by rw [decide_eq_true_eq]; exact c1) ?_
        with_reducible repeat' first | refine sbn ?_ | refine bnd (ldM3 (by assumption)) ?_ | refine bnd (decM3 _ _ _) ?_ | refine bnd (ldI0 (by assumption)) ?_ | refine bnd (ldI1 (by assumption)) ?_ | refine bnd (ldL2 (by assumption)) ?_ | refine jn ?_ | refine gp1 ?_ ?_ | refine gp2 ?_ ?_ ?_ | refine gp3 ?_ ?_ ?_ ?_ | refine bnd (ldZ0 (by assumption)) ?_ | refine bnd (ldZ1 (by assumption)) ?_ | refine bnd (ldZ2 (by assumption)) ?_ | rfl
        refine ifp (by rw [decide_eq_true_eq]; exact c2) ?_
        exact zfin y0 fun x h => some ((x, (1 : Int)), h)
      · obtain ⟨w, hw⟩ : ∃ w : Nat, x = w := ⟨x.toNat, by omega⟩
        subst hw
        have hwR : w < R := by omega
        have wn : natOf rows i = w := by unfold natOf; rw [hx]; simp
        obtain ⟨h1, e1, k1, n1⟩ := row_specS k0 D (r := R) (c := C) (b := BA) (i := w) hsp h hwR hC1 hs
        have ch1 := P.ch.trans (Chg.keeps k1)
        have co1 : h1.get oo = some (.cells (mcell rows.length C s) 84 true 0) := by rw [k1.oth _ P.lo (fun f => f)]; exact P.co
        have lo1 : oo < h1.next := by have := P.lo; omega
        have rw1 := row_row (old ch1 bA l3) (by have := ch1.nx; omega) hwR
        have rd := Row.rdS rw1
        have ylen : (matN C fun x => g (w * C + x)).length = C := mat_length _ _
        have app : ∃ h2 s2 b2, appendA 1 8 3 h1 s ((matN C fun x => g (w * C + x)).map encI) C = some (s2, h2) ∧ Chg (fun x => base ≤ x) H0 h2 ∧ h2.get oo = some (.cells (mcell rows.length C s) 84 true 0) ∧ oo < h2.next ∧
            Grown encI 3 h2 b2 s2 (matN ((i + 1) * C) (pickF C g (natOf rows))) ∧ base ≤ b2 ∧ b2 < h2.next ∧ b2 ≠ oo := by
          have hrow : matN (i * C) (pickF C g (natOf rows)) ++ matN C (fun x => g (w * C + x)) = matN ((i + 1) * C) (pickF C g (natOf rows)) := matN_row fun t ht => by rw [pickF_at ht, wn]
          have hle : i * C + C ≤ rows.length * C := le_row hi'
          rcases P.acc with ⟨hs', hi0⟩ | ⟨b, G, hb1, hb2, hb3⟩
          · have ap := copy_nil (h := h1) (xs := matN C fun x => g (w * C + x)) (by omega) (by omega)
            rw [ylen] at ap
            refine ⟨_, _, h1.next, by rw [hs']; exact ap, ch1.trans (Chg.new _ _), by rw [AHeap.get_new, if_neg (by omega)]; exact co1, by simp; omega, ?_, by have := ch1.nx; omega, by simp, by omega⟩
            rw [← hrow, hi0, Nat.zero_mul]
            have G := Grown.of (enc := encI) (e := 3) (h := h1) (xs := matN C fun x => g (w * C + x)) (matN_ne (by omega))
            rw [ylen] at G
            exact G
          · have G1 := G.chg hb2 k1 (fun f => f)
            have gl : (matN (i * C) (pickF C g (natOf rows))).length = i * C := mat_length _ _
            have ap := G1.append (bytes := 8) (ys := matN C fun x => g (w * C + x)) (fun _ => rfl) (matN_ne (by omega)) (by rw [ylen, gl]; omega) (by omega)
            rw [ylen] at ap
            refine ⟨_, _, h1.next, ap, ch1.trans (Chg.kill_new (.inr hb1)), ?_, by simp; omega, ?_, by have := ch1.nx; omega, by simp, by omega⟩
            · show (if oo = h1.next then _ else if oo = b then none else h1.get oo) = _
              rw [if_neg (by omega), if_neg (fun e => hb3 e.symm)]
              exact co1
            · rw [← hrow]
              refine ⟨rfl, by simp, fun e => ?_⟩
              have := congrArg List.length e
              rw [List.length_append, ylen] at this
              simp at this
              omega
        obtain ⟨h2, s2, b2, ap, ch2, co2, lo2, G2, hb1, hb2, hb3⟩ := app
        obtain ⟨h3, hh3⟩ : ∃ h3, h3 = h2.set oo (.cells (mcell rows.length C s2) 84 true 0) := ⟨_, rfl⟩
        have st : st1 ⟨oo, 2, none⟩ (.slice s2.a s2.len s2.cap) h2 = some h3 := by rw [hh3]; exact stS2 co2
        have cset : Chg (· = oo) h2 h3 := hh3 ▸ Chg.set (.inr rfl)
        obtain ⟨h', c', e'⟩ := ih (i + 1) h3 s2 (by omega) ⟨ch2.trans (cset.wk fun x _ e => by have e : x = oo := e; rw [e]; exact P.bo), by rw [hh3]; simp, Nat.lt_of_lt_of_le lo2 cset.nx, P.bo, .inr ⟨b2, G2.chg hb2 cset hb3, hb1, Nat.lt_of_lt_of_le hb2 cset.nx, hb3⟩⟩
        have okw : okR R (w : Int) = true := by simp [okR]; omega
        have step : ∀ J bot, iterK bot (m + 1 + 1) (matrix_Pick_l0b k0 D J) (some ⟨oa, 0, none⟩) (some ⟨yb, 0, none⟩) (some ⟨oo, 0, none⟩) rs (rows.length : Int) (i : Int) h =
            iterK bot (m + 1) (matrix_Pick_l0b k0 D J) (some ⟨oa, 0, none⟩) (some ⟨yb, 0, none⟩) (some ⟨oo, 0, none⟩) rs (rows.length : Int) ((i + 1 : Nat) : Int) h3 := fun J bot => by
          have co0 := P.co
          rw [iterK_s, matrix_Pick_l0b]
          refine ifp (by rw [decide_eq_true_eq]; omega) ?_
          refine bnd hq (bnd hld ?_)
          with_reducible repeat' first | refine sbn ?_ | refine bnd (ldM3 (by assumption)) ?_ | refine bnd (decM3 _ _ _) ?_ | refine bnd (ldI0 (by assumption)) ?_ | refine bnd (ldI1 (by assumption)) ?_ | refine bnd (ldL2 (by assumption)) ?_ | refine jn ?_ | refine gp1 ?_ ?_ | refine gp2 ?_ ?_ ?_ | refine gp3 ?_ ?_ ?_ ?_ | refine bnd (ldZ0 (by assumption)) ?_ | refine bnd (ldZ1 (by assumption)) ?_ | refine bnd (ldZ2 (by assumption)) ?_ | rfl
          refine ifn (by rw [decide_eq_true_eq]; exact c1) ?_
          with_reducible repeat' first | refine sbn ?_ | refine bnd (ldM3 (by assumption)) ?_ | refine bnd (decM3 _ _ _) ?_ | refine bnd (ldI0 (by assumption)) ?_ | refine bnd (ldI1 (by assumption)) ?_ | refine bnd (ldL2 (by assumption)) ?_ | refine jn ?_ | refine gp1 ?_ ?_ | refine gp2 ?_ ?_ ?_ | refine gp3 ?_ ?_ ?_ ?_ | refine bnd (ldZ0 (by assumption)) ?_ | refine bnd (ldZ1 (by assumption)) ?_ | refine bnd (ldZ2 (by assumption)) ?_ | rfl
          refine ifn (by rw [decide_eq_true_eq]; exact c2) ?_
          with_reducible repeat' first | refine sbn ?_ | refine bnd (ldM3 (by assumption)) ?_ | refine bnd (decM3 _ _ _) ?_ | refine bnd (ldI0 (by assumption)) ?_ | refine bnd (ldI1 (by assumption)) ?_ | refine bnd (ldL2 (by assumption)) ?_ | refine jn ?_ | refine gp1 ?_ ?_ | refine gp2 ?_ ?_ ?_ | refine gp3 ?_ ?_ ?_ ?_ | refine bnd (ldZ0 (by assumption)) ?_ | refine bnd (ldZ1 (by assumption)) ?_ | refine bnd (ldZ2 (by assumption)) ?_ | rfl
          refine bnd e1 ?_
          with_reducible repeat' first | refine sbn ?_ | refine bnd (ldM3 (by assumption)) ?_ | refine bnd (decM3 _ _ _) ?_ | refine bnd (ldI0 (by assumption)) ?_ | refine bnd (ldI1 (by assumption)) ?_ | refine bnd (ldL2 (by assumption)) ?_ | refine jn ?_ | refine gp1 ?_ ?_ | refine gp2 ?_ ?_ ?_ | refine gp3 ?_ ?_ ?_ ?_ | refine bnd (ldZ0 (by assumption)) ?_ | refine bnd (ldZ1 (by assumption)) ?_ | refine bnd (ldZ2 (by assumption)) ?_ | rfl
          refine bnd rd (bnd ap ?_)
          with_reducible repeat' first | refine sbn ?_ | refine bnd (ldM3 (by assumption)) ?_ | refine bnd (decM3 _ _ _) ?_ | refine bnd (ldI0 (by assumption)) ?_ | refine bnd (ldI1 (by assumption)) ?_ | refine bnd (ldL2 (by assumption)) ?_ | refine jn ?_ | refine gp1 ?_ ?_ | refine gp2 ?_ ?_ ?_ | refine gp3 ?_ ?_ ?_ ?_ | refine bnd (ldZ0 (by assumption)) ?_ | refine bnd (ldZ1 (by assumption)) ?_ | refine bnd (ldZ2 (by assumption)) ?_ | rfl
          refine bnd st ?_
          rw [w1 (by omega)]
        refine ⟨h', c', ?_⟩
        rw [okw, Bool.true_and]
        by_cases call : (rows.drop (i + 1)).all (okR R) = true
        · rw [if_pos call] at e' ⊢
          obtain ⟨s', P', e'⟩ := e'
          exact ⟨s', P', fun J bot => (step J bot).trans (e' J bot)⟩
        · rw [if_neg call] at e' ⊢
          exact fun J bot => (step J bot).trans (e' J bot)
end
theorem mpick_spec {k0 : Nat} (hk : 200000 ≤ k0) (D : CallF) {h : AHeap} {r c : Int} {s rs : Slc} {xs rows : List Int} (I : InM h s xs) (hl : xs.length ≤ 100000) (Rr : Row encI h rs rows) :
    ∃ h' res, matrix_Pick k0 D (r, c, s) rs h = some (res, h') ∧ Out h h' res (pickP r c xs rows) ∧ Keeps h h' := by
  obtain ⟨g1, hg1⟩ : ∃ g1, g1 = h.new (.cells [.int .i64 r, .int .i64 c, .slice s.a s.len s.cap] 84 true 0) := ⟨_, rfl⟩
  have k1 : Keeps h g1 := hg1 ▸ Keeps.new h _
  have n1 : g1.next = h.next + 1 := by rw [hg1]; rfl
  obtain ⟨g2, hg2⟩ : ∃ g2, g2 = g1.new (.cells [.int .i64 0, .int .i64 0, .slice none 0 0] 84 true 0) := ⟨_, rfl⟩
  have k2 : Keeps g1 g2 := hg2 ▸ Keeps.new g1 _
  have n2 : g2.next = g1.next + 1 := by rw [hg2]; rfl
  have k02 := k1.trans k2
  have a2 : g2.get h.next = some (.cells (mcell r c s) 84 true 0) := by rw [k2.oth _ (by omega) (fun f => f), hg1]; simp [mcell]
  have y2 : g2.get g1.next = some (.cells (mcell 0 0 nilS) 84 true 0) := by rw [hg2]; simp [mcell, nilS]
  obtain ⟨g5, e5, k5⟩ := mcheck_spec (k0 := k0) D (r := r) (c := c) (I.keeps k02).row (by omega) (by omega)
  have k05 := k02.trans k5
  have a5 : g5.get h.next = some (.cells (mcell r c s) 84 true 0) := by rw [k5.oth _ (by omega) (fun f => f)]; exact a2
  have y5 : g5.get g1.next = some (.cells (mcell 0 0 nilS) 84 true 0) := by rw [k5.oth _ (by omega) (fun f => f)]; exact y2
  have nx5 := k5.nx
  have R5 := Rr.keeps k05
  by_cases ec : chk r c xs = 0
  · by_cases el : rows.length = 0 ∨ rows.length > 255
    · refine ⟨g5, ((0, 0, nilS), 1), ?_, ?_, k05⟩
      · unfold matrix_Pick
        dsimp only
        rw [← hg1, ← hg2]
        with_reducible repeat' first | refine sbn ?_ | refine bnd (ldM3 (by assumption)) ?_ | refine bnd (decM3 _ _ _) ?_ | refine bnd (ldI0 (by assumption)) ?_ | refine bnd (ldI1 (by assumption)) ?_ | refine bnd (ldL2 (by assumption)) ?_ | refine jn ?_ | refine gp1 ?_ ?_ | refine gp2 ?_ ?_ ?_ | refine gp3 ?_ ?_ ?_ ?_ | refine bnd (ldZ0 (by assumption)) ?_ | refine bnd (ldZ1 (by assumption)) ?_ | refine bnd (ldZ2 (by assumption)) ?_ | rfl
        refine bnd e5 (ifn (by simp [ec]) ?_)
        with_reducible repeat' first | refine sbn ?_ | refine bnd (ldM3 (by assumption)) ?_ | refine bnd (decM3 _ _ _) ?_ | refine bnd (ldI0 (by assumption)) ?_ | refine bnd (ldI1 (by assumption)) ?_ | refine bnd (ldL2 (by assumption)) ?_ | refine jn ?_ | refine gp1 ?_ ?_ | refine gp2 ?_ ?_ ?_ | refine gp3 ?_ ?_ ?_ ?_ | refine bnd (ldZ0 (by assumption)) ?_ | refine bnd (ldZ1 (by assumption)) ?_ | refine bnd (ldZ2 (by assumption)) ?_ | rfl
        rw [Rr.1]
        by_cases e0 : rows.length = 0
        · refine ifp (by simp [e0]) (ifp rfl ?_)
          exact zfin y5 fun x h => some ((x, (1 : Int)), h)
        · refine ifn (ne_nz e0) (ifp (by rw [decide_eq_true_eq]; omega) ?_)
          exact zfin y5 fun x h => some ((x, (1 : Int)), h)
      · unfold pickP
        rw [if_neg (fun h => h ec), if_pos el]
        exact Out.no _
    · obtain ⟨R, C, g, rfl, rfl, hR1, hR2, hC1, hC2, hxs, hel⟩ := chk_ok ec
      have lA := row_lt I.row (by rw [hxs]; exact matN_ne (by have := Nat.mul_pos hR1 hC1; omega))
      have lR := row_lt Rr (fun e => by rw [e] at el; simp at el)
      have I5 := I.keeps k05
      rw [hxs] at I5
      obtain ⟨BA, sp, rfl, hsp, ma⟩ := I5.mx (by have := Nat.mul_pos hR1 hC1; omega) hel
      obtain ⟨g7, st7, k7, n7, b7⟩ := mvar (h := g5) (e := 84) (r := (rows.length : Int)) (c := (C : Int)) (s := nilS)
      have P7 : PK g7 g5.next g5.next C rows.length (natOf rows) g 0 g7 nilS := ⟨.refl _ _, b7, by omega, Nat.le_refl _, .inl ⟨rfl, rfl⟩⟩
      have la5 : BA < h.next := lA _ rfl
      obtain ⟨g8, c8, e8⟩ := mpick_l0 (k0 := k0) (oo := g5.next) (oa := h.next) (R := R) D hsp hC1 hC2 hR2 (by omega) (R5.keeps k7) (by rw [k7.oth _ (by omega) (fun f => f)]; exact a5) (yb := g1.next) (by rw [k7.oth _ (by omega) (fun f => f)]; exact y5) (ma.keeps k7).blk (base := g5.next) (by omega) (by omega) (by omega) (by omega)
        (fun a ha => by have := lR a ha; omega) rows.length 0 g7 nilS (by omega) P7
      have nx8 := c8.nx
      have y8 : g8.get g1.next = some (.cells (mcell 0 0 nilS) 84 true 0) := by
        rw [c8.oth _ (by omega) (by omega), k7.oth _ (by omega) (fun f => f)]; exact y5
      have c08 : Keeps h g8 := (k05.trans k7).beh c8 fun x hx e => by have e : g5.next ≤ x := e; omega
      rw [List.drop_zero] at e8
      by_cases call : rows.all (okR R) = true
      · rw [if_pos call] at e8
        obtain ⟨s', P', e8⟩ := e8
        have co8 := P'.co
        have nz : rows.length * C ≠ 0 := by
          have := Nat.mul_pos (show 0 < rows.length by omega) hC1
          omega
        rcases P'.acc with ⟨_, e0⟩ | ⟨b, G, hb1, hb2, hb3⟩
        · omega
        have gl : (matN (rows.length * C) (pickF C g (natOf rows))).length = rows.length * C := mat_length _ _
        have hs' : s' = whole b (rows.length * C) (some 2) := by rw [G.s, gl]; rfl
        refine ⟨g8.set g1.next (.cells (mcell rows.length C s') 84 true 0), ((rows.length, C, s'), 0), ?_, ?_, c08.beh (T := (· = g1.next)) (Chg.set (.inr rfl)) fun x hx e => by
          have e : x = g1.next := e
          omega⟩
        · unfold matrix_Pick
          dsimp only
          rw [← hg1, ← hg2]
          with_reducible repeat' first | refine sbn ?_ | refine bnd (ldM3 (by assumption)) ?_ | refine bnd (decM3 _ _ _) ?_ | refine bnd (ldI0 (by assumption)) ?_ | refine bnd (ldI1 (by assumption)) ?_ | refine bnd (ldL2 (by assumption)) ?_ | refine jn ?_ | refine gp1 ?_ ?_ | refine gp2 ?_ ?_ ?_ | refine gp3 ?_ ?_ ?_ ?_ | refine bnd (ldZ0 (by assumption)) ?_ | refine bnd (ldZ1 (by assumption)) ?_ | refine bnd (ldZ2 (by assumption)) ?_ | rfl
          refine bnd e5 (ifn (by simp [ec]) ?_)
          with_reducible repeat' first | refine sbn ?_ | refine bnd (ldM3 (by assumption)) ?_ | refine bnd (decM3 _ _ _) ?_ | refine bnd (ldI0 (by assumption)) ?_ | refine bnd (ldI1 (by assumption)) ?_ | refine bnd (ldL2 (by assumption)) ?_ | refine jn ?_ | refine gp1 ?_ ?_ | refine gp2 ?_ ?_ ?_ | refine gp3 ?_ ?_ ?_ ?_ | refine bnd (ldZ0 (by assumption)) ?_ | refine bnd (ldZ1 (by assumption)) ?_ | refine bnd (ldZ2 (by assumption)) ?_ | rfl
          rw [Rr.1]
          refine ifn (ne_nz (by omega)) (ifn (by rw [decide_eq_true_eq]; omega) ?_)
          with_reducible repeat' first | refine sbn ?_ | refine bnd (ldM3 (by assumption)) ?_ | refine bnd (decM3 _ _ _) ?_ | refine bnd (ldI0 (by assumption)) ?_ | refine bnd (ldI1 (by assumption)) ?_ | refine bnd (ldL2 (by assumption)) ?_ | refine jn ?_ | refine gp1 ?_ ?_ | refine gp2 ?_ ?_ ?_ | refine gp3 ?_ ?_ ?_ ?_ | refine bnd (ldZ0 (by assumption)) ?_ | refine bnd (ldZ1 (by assumption)) ?_ | refine bnd (ldZ2 (by assumption)) ?_ | rfl
          rw [Rr.1]
          refine bnd st7 ?_
          with_reducible repeat' first | refine sbn ?_ | refine bnd (ldM3 (by assumption)) ?_ | refine bnd (decM3 _ _ _) ?_ | refine bnd (ldI0 (by assumption)) ?_ | refine bnd (ldI1 (by assumption)) ?_ | refine bnd (ldL2 (by assumption)) ?_ | refine jn ?_ | refine gp1 ?_ ?_ | refine gp2 ?_ ?_ ?_ | refine gp3 ?_ ?_ ?_ ?_ | refine bnd (ldZ0 (by assumption)) ?_ | refine bnd (ldZ1 (by assumption)) ?_ | refine bnd (ldZ2 (by assumption)) ?_ | rfl
          unfold matrix_Pick_l0
          obtain ⟨bot, hbot⟩ := iterK_of (fun _ _ _ _ _ _ _ => none) (matrix_Pick_l0b k0 D _) (show rows.length + 1 ≤ k0 by omega)
          rw [hbot]
          refine (e8 _ bot).trans ?_
          exact yfin co8 y8 fun x h => some ((x, (0 : Int)), h)
        · unfold pickP
          rw [if_neg (fun h => h ec), if_neg el, if_pos (show rows.all (okR (R : Int).toNat) = true from call), hs']
          simp only [Int.toNat_natCast]
          have u9 : Mx (g8.set g1.next (.cells (mcell rows.length C (whole b (rows.length * C) (some 2))) 84 true 0)) b (rows.length * C) (pickF C g (natOf rows)) := by
            refine ⟨by rw [AHeap.get_set, if_neg (by omega)]; exact G.blk, by simp; omega, fun t ht => ?_⟩
            have hd := (Nat.div_lt_iff_lt_mul hC1).2 ht
            have hm := Nat.mod_lt t hC1
            have := le_row (c := C) (okR_nat call hd).2
            exact hel _ (by unfold pickF at *; omega)
          refine ⟨rfl, rfl, rfl, ?_, fun a ha => by cases ha; show h.next ≤ b; omega⟩
          refine (u9.congr fun t ht => ?_).inM (sp := some 2) rfl
          have hd := (Nat.div_lt_iff_lt_mul hC1).2 ht
          have hm := Nat.mod_lt t hC1
          have := le_row (c := C) (okR_nat call hd).2
          unfold pickF
          rw [hxs, natOf_mat (by omega)]
      · rw [if_neg call] at e8
        refine ⟨g8, ((0, 0, nilS), 1), ?_, ?_, c08⟩
        · unfold matrix_Pick
          dsimp only
          rw [← hg1, ← hg2]
          with_reducible repeat' first | refine sbn ?_ | refine bnd (ldM3 (by assumption)) ?_ | refine bnd (decM3 _ _ _) ?_ | refine bnd (ldI0 (by assumption)) ?_ | refine bnd (ldI1 (by assumption)) ?_ | refine bnd (ldL2 (by assumption)) ?_ | refine jn ?_ | refine gp1 ?_ ?_ | refine gp2 ?_ ?_ ?_ | refine gp3 ?_ ?_ ?_ ?_ | refine bnd (ldZ0 (by assumption)) ?_ | refine bnd (ldZ1 (by assumption)) ?_ | refine bnd (ldZ2 (by assumption)) ?_ | rfl
          refine bnd e5 (ifn (by simp [ec]) ?_)
          with_reducible repeat' first | refine sbn ?_ | refine bnd (ldM3 (by assumption)) ?_ | refine bnd (decM3 _ _ _) ?_ | refine bnd (ldI0 (by assumption)) ?_ | refine bnd (ldI1 (by assumption)) ?_ | refine bnd (ldL2 (by assumption)) ?_ | refine jn ?_ | refine gp1 ?_ ?_ | refine gp2 ?_ ?_ ?_ | refine gp3 ?_ ?_ ?_ ?_ | refine bnd (ldZ0 (by assumption)) ?_ | refine bnd (ldZ1 (by assumption)) ?_ | refine bnd (ldZ2 (by assumption)) ?_ | rfl
          rw [Rr.1]
          refine ifn (ne_nz (by omega)) (ifn (by rw [decide_eq_true_eq]; omega) ?_)
          with_reducible repeat' first | refine sbn ?_ | refine bnd (ldM3 (by assumption)) ?_ | refine bnd (decM3 _ _ _) ?_ | refine bnd (ldI0 (by assumption)) ?_ | refine bnd (ldI1 (by assumption)) ?_ | refine bnd (ldL2 (by assumption)) ?_ | refine jn ?_ | refine gp1 ?_ ?_ | refine gp2 ?_ ?_ ?_ | refine gp3 ?_ ?_ ?_ ?_ | refine bnd (ldZ0 (by assumption)) ?_ | refine bnd (ldZ1 (by assumption)) ?_ | refine bnd (ldZ2 (by assumption)) ?_ | rfl
          rw [Rr.1]
          refine bnd st7 ?_
          with_reducible repeat' first | refine sbn ?_ | refine bnd (ldM3 (by assumption)) ?_ | refine bnd (decM3 _ _ _) ?_ | refine bnd (ldI0 (by assumption)) ?_ | refine bnd (ldI1 (by assumption)) ?_ | refine bnd (ldL2 (by assumption)) ?_ | refine jn ?_ | refine gp1 ?_ ?_ | refine gp2 ?_ ?_ ?_ | refine gp3 ?_ ?_ ?_ ?_ | refine bnd (ldZ0 (by assumption)) ?_ | refine bnd (ldZ1 (by assumption)) ?_ | refine bnd (ldZ2 (by assumption)) ?_ | rfl
          unfold matrix_Pick_l0
          obtain ⟨bot, hbot⟩ := iterK_of (fun _ _ _ _ _ _ _ => none) (matrix_Pick_l0b k0 D _) (show rows.length + 1 ≤ k0 by omega)
          rw [hbot]
          exact e8 _ bot
        · unfold pickP
          rw [if_neg (fun h => h ec), if_neg el, if_neg (show ¬ rows.all (okR (R : Int).toNat) = true from call)]
          exact Out.no _
  · refine ⟨g5, ((0, 0, nilS), chk r c xs), ?_, ?_, k05⟩
    · unfold matrix_Pick
      dsimp only
      rw [← hg1, ← hg2]
      with_reducible repeat' first | refine sbn ?_ | refine bnd (ldM3 (by assumption)) ?_ | refine bnd (decM3 _ _ _) ?_ | refine bnd (ldI0 (by assumption)) ?_ | refine bnd (ldI1 (by assumption)) ?_ | refine bnd (ldL2 (by assumption)) ?_ | refine jn ?_ | refine gp1 ?_ ?_ | refine gp2 ?_ ?_ ?_ | refine gp3 ?_ ?_ ?_ ?_ | refine bnd (ldZ0 (by assumption)) ?_ | refine bnd (ldZ1 (by assumption)) ?_ | refine bnd (ldZ2 (by assumption)) ?_ | rfl
      refine bnd e5 (ifp (by simpa using ec) ?_)
      exact zfin y5 fun x h => some ((x, chk r c xs), h)
    · unfold pickP
      rw [if_pos ec]
      exact Out.no _
end Gz
namespace Gz
open Go Gx Go.Proofs
theorem div_scl {x b : Nat} (hx : x < 256) (hb : b < 256) (b0 : b ≠ 0) : mulT x (divT 1 b) = divT x b := by
  have h1 : mulT (mulT x (divT 1 b)) b = x := by rw [mulT_assoc, mul_div (by omega) hb b0, mulT_one hx]
  have := div_mul (q := mulT x (divT 1 b)) (b := b) (mulT_lt _ _) hb b0
  rw [h1] at this
  exact this.symm
theorem stepsN_le (R C C2 : Nat) : ∀ (m j r : Nat) (g u : Nat → Nat), (stepsN R C C2 m j r g u).1 ≤ r + m
  | 0, _, r, _, _ => Nat.le_refl _
  | m + 1, j, r, g, u => by
    simp only [stepsN]
    split
    · split
      · have := stepsN_le R C C2 m (j + 1) r g u; omega
      · have := stepsN_le R C C2 m (j + 1) (r + 1) (stepG C j (leadN C j g (R - r) r) r g) (stepU C C2 j (leadN C j g (R - r) r) r g u); omega
    · omega
structure SR (H0 : AHeap) (B B2 oa ol ou yb R : Nat) (s : Slc) (sp sp2 : Option Nat) (g u : Nat → Nat) (h : AHeap) : Prop where
  a : Mx h B (R * R) g
  b : Mx h B2 (R * R) u
  ca : h.get oa = some (.cells (mcell R R s) 97 true 0)
  cl : h.get ol = some (.cells (mcell R R (whole B (R * R) sp)) 97 true 0)
  cu : h.get ou = some (.cells (mcell R R (whole B2 (R * R) sp2)) 97 true 0)
  cy : h.get yb = some (.cells (mcell 0 0 nilS) 97 true 0)
  la : oa < h.next
  ll : ol < h.next
  lu : ou < h.next
  ly : yb < h.next
  ch : Chg (fun x => x = B ∨ x = B2) H0 h
structure DR (B B2 oa ol ou yb : Nat) : Prop where
  bb : B ≠ B2
  a1 : oa ≠ B
  l1 : ol ≠ B
  u1 : ou ≠ B
  y1 : yb ≠ B
  a2 : oa ≠ B2
  l2 : ol ≠ B2
  u2 : ou ≠ B2
  y2 : yb ≠ B2
section
variable {H0 : AHeap} {B B2 oa ol ou yb R : Nat} {s : Slc} {sp sp2 : Option Nat} {g u g' u' : Nat → Nat} {h h' : AHeap}
theorem SR.keeps (S : SR H0 B B2 oa ol ou yb R s sp sp2 g u h) (k : Keeps h h') : SR H0 B B2 oa ol ou yb R s sp sp2 g u h' :=
  ⟨S.a.keeps k, S.b.keeps k, by rw [k.oth _ S.la (fun f => f)]; exact S.ca, by rw [k.oth _ S.ll (fun f => f)]; exact S.cl, by rw [k.oth _ S.lu (fun f => f)]; exact S.cu, by rw [k.oth _ S.ly (fun f => f)]; exact S.cy,
    Nat.lt_of_lt_of_le S.la k.nx, Nat.lt_of_lt_of_le S.ll k.nx, Nat.lt_of_lt_of_le S.lu k.nx, Nat.lt_of_lt_of_le S.ly k.nx, S.ch.trans (Chg.keeps k)⟩
theorem SR.opA (D : DR B B2 oa ol ou yb) (S : SR H0 B B2 oa ol ou yb R s sp sp2 g u h) (m : Mx h' B (R * R) g') (k : Chg (· = B) h h') : SR H0 B B2 oa ol ou yb R s sp sp2 g' u h' :=
  ⟨m, S.b.chg k (fun e => D.bb e.symm), by rw [k.oth _ S.la D.a1]; exact S.ca, by rw [k.oth _ S.ll D.l1]; exact S.cl, by rw [k.oth _ S.lu D.u1]; exact S.cu, by rw [k.oth _ S.ly D.y1]; exact S.cy,
    Nat.lt_of_lt_of_le S.la k.nx, Nat.lt_of_lt_of_le S.ll k.nx, Nat.lt_of_lt_of_le S.lu k.nx, Nat.lt_of_lt_of_le S.ly k.nx, S.ch.trans (k.wk fun _ _ e => .inl e)⟩
theorem SR.opB (D : DR B B2 oa ol ou yb) (S : SR H0 B B2 oa ol ou yb R s sp sp2 g u h) (m : Mx h' B2 (R * R) u') (k : Chg (· = B2) h h') : SR H0 B B2 oa ol ou yb R s sp sp2 g u' h' :=
  ⟨S.a.chg k D.bb, m, by rw [k.oth _ S.la D.a2]; exact S.ca, by rw [k.oth _ S.ll D.l2]; exact S.cl, by rw [k.oth _ S.lu D.u2]; exact S.cu, by rw [k.oth _ S.ly D.y2]; exact S.cy,
    Nat.lt_of_lt_of_le S.la k.nx, Nat.lt_of_lt_of_le S.ll k.nx, Nat.lt_of_lt_of_le S.lu k.nx, Nat.lt_of_lt_of_le S.ly k.nx, S.ch.trans (k.wk fun _ _ e => .inr e)⟩
theorem SR.congr (S : SR H0 B B2 oa ol ou yb R s sp sp2 g u h) (e1 : ∀ t, t < R * R → g t = g' t) (e2 : ∀ t, t < R * R → u t = u' t) : SR H0 B B2 oa ol ou yb R s sp sp2 g' u' h :=
  ⟨S.a.congr e1, S.b.congr e2, S.ca, S.cl, S.cu, S.cy, S.la, S.ll, S.lu, S.ly, S.ch⟩
end
section
variable {k0 : Nat} {H0 : AHeap} {B B2 oa ol ou yb R : Nat} {s : Slc} {sp sp2 : Option Nat} {g u : Nat → Nat}
end
end Gz
namespace Gz
open Go Gx Go.Proofs
theorem set_get (h : AHeap) (b : Nat) (B : ABlk) : (h.set b B).get b = some B := by simp
structure PL (h : AHeap) (pb f2 B sb fb k m : Nat) : Prop where
  blk : h.get pb = some (.cells [.int .i64 (k : Int), .int .i64 (m : Int), .pointer (some ⟨f2, 0, none⟩), .pointer (some ⟨sb, 0, none⟩), .int .i64 ((k + m : Nat) : Int), .int .i64 (k : Int), .slice (some ⟨B, 0, some 0⟩) ((k + m) * k) ((k + m) * k)] 90 true 0)
  fld : Fld h f2
  mat : h.get B = some (outB encI 3 (mat ((k + m) * k) (cau k)))
  spc : Spc h sb fb
  lp : pb < h.next
  lf : f2 < h.next
  lb : B < h.next
  n1 : B ≠ f2
  n2 : pb ≠ f2
  n3 : sb ≠ f2
  n4 : fb ≠ f2
  n5 : B ≠ fb
  n6 : pb ≠ fb
  n7 : B ≠ sb
  n8 : pb ≠ sb
theorem PL.chg {S : Nat → Prop} {h h' : AHeap} {pb f2 B sb fb k m : Nat} (p : PL h pb f2 B sb fb k m) (c : Chg S h h') (a1 : ¬ S pb) (a2 : ¬ S f2) (a3 : ¬ S B) (a4 : ¬ S sb) (a5 : ¬ S fb) : PL h' pb f2 B sb fb k m :=
  ⟨(c.oth _ p.lp a1).trans p.blk, fldchg p.fld p.lf c a2, (c.oth _ p.lb a3).trans p.mat, p.spc.chg c a4 a5, Nat.lt_of_lt_of_le p.lp c.nx, Nat.lt_of_lt_of_le p.lf c.nx, Nat.lt_of_lt_of_le p.lb c.nx, p.n1, p.n2, p.n3, p.n4, p.n5, p.n6, p.n7, p.n8⟩
theorem PL.keeps {h h' : AHeap} {pb f2 B sb fb k m : Nat} (p : PL h pb f2 B sb fb k m) (c : Keeps h h') : PL h' pb f2 B sb fb k m :=
  p.chg c (fun f => f) (fun f => f) (fun f => f) (fun f => f) (fun f => f)
theorem PL.fs2 {h h' : AHeap} {pb f2 B sb fb k m : Nat} (p : PL h pb f2 B sb fb k m) (s : FS f2 h h') : PL h' pb f2 B sb fb k m :=
  ⟨(s.oth _ p.lp p.n2).trans p.blk, s.fld, (s.oth _ p.lb p.n1).trans p.mat, p.spc.chg s.chg p.n3 p.n4, Nat.lt_of_lt_of_le p.lp s.nx, Nat.lt_of_lt_of_le p.lf s.nx, Nat.lt_of_lt_of_le p.lb s.nx, p.n1, p.n2, p.n3, p.n4, p.n5, p.n6, p.n7, p.n8⟩
theorem snew_spec {k0 : Nat} (hk : 1000 ≤ k0) (h : AHeap) {k m : Nat} (hk1 : 0 < k) (hR : k + m ≤ 255) :
    ∃ h' pb f2 B sb fb, stripe_New k0 (DD k0) (k : Int) (m : Int) h = some ((some ⟨pb, 0, none⟩, 0), h') ∧ PL h' pb f2 B sb fb k m ∧ Keeps h h' ∧ h.next ≤ pb ∧ h.next ≤ f2 ∧ h.next ≤ B ∧ h.next ≤ sb ∧ h.next ≤ fb := by
  simp only [stripe_New]
  obtain ⟨h1, r1, k1, S1, n1⟩ := mnew_spec k0 (DD k0) h
  obtain ⟨h2, B, r2, S2, M⟩ := cauchy_spec hk (k := k) (m := m) S1 hk1 hR
  obtain ⟨h4, r4, k4, n4, b4⟩ := mvar (h := h2) (e := 84) (r := ((k + m : Nat) : Int)) (c := (k : Int)) (s := whole B ((k + m) * k))
  have hs := S2.ls
  have hf := S2.lf
  have hB := M.lb
  have hnb := M.nb
  let h5 := h4.new (.cells fresh 143 true 0)
  have k5 : Keeps h4 h5 := Keeps.new _ _
  have b5 : h5.get h2.next = some (.cells (mcell ((k + m : Nat) : Int) (k : Int) (whole B ((k + m) * k))) 84 true 0) := (k5.oth _ (by omega) (fun f => f)).trans b4
  have q4 := ldA_at (sp := none) b4 (show (mcell ((k + m : Nat) : Int) (k : Int) (whole B ((k + m) * k))).length = 3 from rfl)
  have q5 := ldA_at (sp := none) b5 (show (mcell ((k + m : Nat) : Int) (k : Int) (whole B ((k + m) * k))).length = 3 from rfl)
  let h6 := h5.new (.cells [.int .i64 (k : Int), .int .i64 (m : Int), .pointer (some ⟨h4.next, 0, none⟩), .pointer (some ⟨h.next + 1, 0, none⟩), .int .i64 ((k + m : Nat) : Int), .int .i64 (k : Int), .slice (some ⟨B, 0, some 0⟩) ((k + m) * k) ((k + m) * k)] 90 true 0)
  have k6 : Keeps h5 h6 := Keeps.new _ _
  have K26 : Keeps h2 h6 := k4.trans (k5.trans k6)
  have n5 : h5.next = h4.next + 1 := rfl
  refine ⟨h6, h5.next, h4.next, B, h.next + 1, h.next, ?_, ⟨?_, ?_, ?_, S2.keeps K26, ?_, ?_, ?_, ?_, ?_, ?_, ?_, ?_, ?_, ?_, ?_⟩, ?_, ?_, ?_, ?_, ?_, ?_⟩
  · refine bnd r1 (bnd r2 (bnd r4 ?_))
    refine ifn (by simp) ?_
    refine bnd (new_spec k0 (DD k0) h4) ?_
    refine bnd q5 (gp (sw1 (bnd q4 rfl)) ?_)
    exact bnd rfl rfl
  · show h6.get h5.next = _; simp [h6]
  · exact fldchg (fld_new h4) (by show h4.next < h4.next + 1; omega) k6 (fun f => f)
  · exact (K26.oth _ hB (fun f => f)).trans M.blk
  · show h5.next < h5.next + 1; omega
  · show h4.next < h4.next + 1 + 1; omega
  · have := K26.nx; omega
  · omega
  · omega
  · omega
  · omega
  · omega
  · omega
  · omega
  · omega
  · exact Chg.beh (k1.trans (Chg.refl _ _)) (M.ch.trans (Chg.keeps K26)) (fun x hx e => by have : x = h.next := e; omega)
  · omega
  · omega
  · omega
  · omega
  · omega
structure PR (h : AHeap) (pb B k m : Nat) : Prop where
  blk : h.get pb = some (.cells [.int .i64 (k : Int), .int .i64 (m : Int), .int .i64 ((k + m : Nat) : Int), .int .i64 (k : Int), .slice (some ⟨B, 0, some 0⟩) ((k + m) * k) ((k + m) * k)] 101 true 0)
  mat : h.get B = some (outB encI 3 (mat ((k + m) * k) (cau k)))
  lp : pb < h.next
  lb : B < h.next
theorem PR.chg {S : Nat → Prop} {h h' : AHeap} {pb B k m : Nat} (p : PR h pb B k m) (c : Chg S h h') (a1 : ¬ S pb) (a3 : ¬ S B) : PR h' pb B k m :=
  ⟨(c.oth _ p.lp a1).trans p.blk, (c.oth _ p.lb a3).trans p.mat, Nat.lt_of_lt_of_le p.lp c.nx, Nat.lt_of_lt_of_le p.lb c.nx⟩
theorem PR.keeps {h h' : AHeap} {pb B k m : Nat} (p : PR h pb B k m) (c : Keeps h h') : PR h' pb B k m := p.chg c (fun f => f) (fun f => f)
end Gz
namespace Gz
open Go Gx Go.Proofs
def nE (k L : Nat) : Nat := (L + k - 1) / k
def padL (k : Nat) (s : ByteArray) : List UInt8 := bl s ++ List.replicate (k * nE k s.size - s.size) 0
def pieceB (k : Nat) (s : ByteArray) (i : Nat) : ByteArray := ⟨⟨((padL k s).take ((i + 1) * nE k s.size)).drop (i * nE k s.size)⟩⟩
def piecesL (k : Nat) (s : ByteArray) : List ByteArray := (List.range k).map (pieceB k s)
def rowC (k i : Nat) : List Int := (List.range k).map fun j => cau k (i * k + j)
def shardB (k : Nat) (s : ByteArray) (i : Nat) : ByteArray := if i < k then pieceB k s i else (mixA (piecesL k s) (rowC k i)).1
def shardsL (k m : Nat) (s : ByteArray) : List ByteArray := (List.range (k + m)).map (shardB k s)
theorem nE_ge {k : Nat} (hk : 0 < k) (L : Nat) : L ≤ k * nE k L := by
  unfold nE
  have := Nat.div_add_mod (L + k - 1) k
  have h2 := Nat.mod_lt (L + k - 1) hk
  omega
theorem nE_le {k : Nat} (_hk : 0 < k) (L : Nat) : k * nE k L ≤ L + k - 1 := Nat.mul_div_le _ _
theorem padL_length {k : Nat} (hk : 0 < k) (s : ByteArray) : (padL k s).length = k * nE k s.size := by
  have := nE_ge hk s.size
  simp only [padL, List.length_append, bl_length, List.length_replicate]; omega
theorem pieceB_size {k i : Nat} (hk : 0 < k) (s : ByteArray) (hi : i < k) : (pieceB k s i).size = nE k s.size := by
  have h1 : (i + 1) * nE k s.size ≤ k * nE k s.size := Nat.mul_le_mul_right _ hi
  rw [pieceB, size_mk, List.length_drop, List.length_take, padL_length hk, Nat.min_eq_left h1, Nat.add_mul]; omega
theorem piecesL_length (k : Nat) (s : ByteArray) : (piecesL k s).length = k := by simp [piecesL]
theorem rowC_length (k i : Nat) : (rowC k i).length = k := by simp [rowC]
theorem pieces_mem {k : Nat} (hk : 0 < k) {s x : ByteArray} (hx : x ∈ piecesL k s) : x.size = nE k s.size := by
  obtain ⟨i, hi, rfl⟩ := List.mem_map.1 hx
  exact pieceB_size hk s (List.mem_range.1 hi)
def emT : ByteArray := ⟨#[]⟩
def filT (f : Nat → ByteArray) (T i : Nat) : List ByteArray := (List.range i).map f ++ List.replicate (T - i) emT
theorem filT_length {f : Nat → ByteArray} {T i : Nat} (hi : i ≤ T) : (filT f T i).length = T := by simp [filT]; omega
theorem filT_get {f : Nat → ByteArray} {T i j : Nat} (hj : j < i) : (filT f T i)[j]? = some (f j) := by
  unfold filT
  rw [List.getElem?_append_left (by simpa using hj)]
  simp [hj]
theorem filT_all {f : Nat → ByteArray} {T : Nat} : filT f T T = (List.range T).map f := by simp [filT]
theorem fil_push {f : Nat → ByteArray} {T i : Nat} {h : AHeap} {ob : Nat} {x : ByteArray} (hb : h.get ob = some (outB encS 9 (filT f T i))) (hi : i < T) (hx : x = f i) :
    appendA 1 16 9 h (⟨some ⟨ob, 0, some 0⟩, i, T⟩ : Slc) [.string x] 1 = some (⟨some ⟨ob, 0, some 0⟩, i + 1, T⟩, h.set ob (outB encS 9 (filT f T (i + 1)))) := by
  subst hx
  unfold appendA
  rw [if_pos (show i + 1 ≤ T from hi)]
  simp only [Nat.one_ne_zero, if_false]
  have hl : ((filT f T i).map encS).length = T := by rw [List.length_map, filT_length (by omega)]
  have hw : h.wrL ob (0 + i * 1) [Value.string (f i)] = some (h.set ob (outB encS 9 (filT f T (i + 1)))) := by
    simp only [AHeap.wrL, hb, outB]
    rw [if_pos ⟨by rw [hl]; simp; omega, by omega, rfl⟩]
    congr 3
    simp only [splice, Nat.zero_add, Nat.mul_one, List.length_singleton]
    unfold filT
    have e1 : ((List.range i).map f).length = i := by simp
    rw [← List.map_take, ← List.map_drop, List.take_left' e1, List.drop_append, e1, List.drop_eq_nil_of_le (by rw [e1]; omega), List.nil_append, show i + 1 - i = 1 by omega, List.drop_replicate, List.range_succ, List.map_append, List.map_append, List.map_append, show T - i - 1 = T - (i + 1) by omega]
    simp [encS]
  rw [hw]; rfl
def eachA (k : Nat) (long : Int) : Int × Int := if long < 0 ∨ long > 65536 then (0, 1) else (Int.tdiv (long + k - 1) k, 0)
theorem eachA_nat {k L : Nat} (hk : 0 < k) (hL : L ≤ 65536) : eachA k (L : Int) = (((nE k L : Nat) : Int), 0) := by
  unfold eachA
  rw [if_neg (by omega)]
  have : (L : Int) + k - 1 = ((L + k - 1 : Nat) : Int) := by omega
  rw [this]; rfl
theorem each_spec (k0 : Nat) (D : CallF) {h : AHeap} {pb f2 B sb fb k m : Nat} (p : PL h pb f2 B sb fb k m) (hk : 0 < k) (hk2 : k ≤ 255) (long : Int) : stripe_Plan_Each k0 D (some ⟨pb, 0, none⟩) long h = some (eachA k long, h) := by
  simp only [stripe_Plan_Each]
  have l0 : ldI .i64 ⟨pb, 0, none⟩ h = some (k : Int) := ldI_at p.blk rfl
  unfold eachA
  by_cases c1 : long < 0
  · refine jn (ifp (decide_eq_true c1) (ifp rfl ?_)); rw [if_pos (.inl c1)]
  · refine jn (ifn (by simpa using c1) ?_)
    by_cases c2 : long > 65536
    · refine ifp (decide_eq_true c2) ?_; rw [if_pos (.inr c2)]
    · refine ifn (by simpa using c2) ?_
      rw [if_neg (by omega)]
      refine bnd rfl (bnd l0 (bnd rfl (bnd l0 ?_)))
      refine ifn (by omega) ?_
      have q2 : Int.tdiv (long + (k : Int) - 1) (k : Int) ≤ long + k - 1 := by rw [Int.tdiv_eq_ediv_of_nonneg (by omega)]; exact Int.ediv_le_self _ (by omega)
      have q1 : 0 ≤ Int.tdiv (long + (k : Int) - 1) (k : Int) := Int.tdiv_nonneg (by omega) (by omega)
      rw [w64 (long + (k : Int)) (by omega), w64 (long + (k : Int) - 1) (by omega), w64 _ (by omega)]
theorem mat_row {k N : Nat} {h : AHeap} {B : Nat} (hb : h.get B = some (outB encI 3 (mat N (cau k)))) (hl : B < h.next) {i : Nat} (hi : i * k + k ≤ N) (cap : Nat) (sp : Option Nat) : Row encI h (⟨some ⟨B, i * k, sp⟩, k, cap⟩ : Slc) (rowC k i) := by
  have := Row.of_block (enc := encI) (h := h) (xs := rowC k i) (b := B) (o := i * k) (sp := sp) (cap := cap) (c := (mat N (cau k)).map encI) (e := 3) (r := true) (fz := 0) hb hl (fun j x hx => by
    have hj : j < k := by
      have := (List.getElem?_eq_some_iff.1 hx).1; rwa [rowC_length] at this
    have hx' : x = cau k (i * k + j) := by simp [rowC, hj] at hx; exact hx.symm
    rw [List.getElem?_map, mat_get (show i * k + j < N by omega), hx']; rfl)
  rw [rowC_length] at this
  exact this
theorem subL_row {B k i N : Nat} (hk : 0 < k) (hi : i * k + k ≤ N) (hN : N ≤ 70000) (hi2 : i ≤ 255) : Gx.subL 1 (⟨some ⟨B, 0, some 0⟩, N, N⟩ : Slc) (some (IntKind.wrap .i64 ((i : Int) * (k : Int)))) (some (IntKind.wrap .i64 ((IntKind.wrap .i64 ((i : Int) + 1)) * (k : Int)))) none = some (⟨some ⟨B, i * k, some 0⟩, k, N - i * k⟩ : Slc) := by
  have e1 : (i : Int) * (k : Int) = ((i * k : Nat) : Int) := by simp
  have e3 : IntKind.wrap .i64 ((i : Int) + 1) = ((i + 1 : Nat) : Int) := by rw [w64 _ (by omega)]; omega
  have e4 : ((i + 1 : Nat) : Int) * (k : Int) = ((i * k + k : Nat) : Int) := by push_cast; rw [Int.add_mul, Int.one_mul]
  have e2 : IntKind.wrap .i64 ((i : Int) * (k : Int)) = ((i * k : Nat) : Int) := by rw [e1]; exact w64 _ (by omega)
  rw [e3, e4, e2, w64 ((i * k + k : Nat) : Int) (by omega)]
  simp only [Gx.subL, Option.getD_none, Option.getD_some]
  rw [if_pos (by omega), if_pos (by rfl), if_neg (by omega)]
  simp only [Int.toNat_natCast, Nat.mul_one, Nat.zero_add, Option.isSome_none, Bool.false_eq_true, if_false]
  rw [show (((i * k + k : Nat) : Int) - ((i * k : Nat) : Int)).toNat = k by omega, show ((N : Int) - ((i * k : Nat) : Int)).toNat = N - i * k by omega]
end Gz
namespace Gz
open Go Gx Go.Proofs
theorem repL (c : Nat) : Lib.repeatL [0] c = List.replicate c (0 : UInt8) := by
  induction c with
  | zero => rfl
  | succ c ih => simp [Lib.repeatL, ih, List.replicate_succ]
theorem pad_bl {k : Nat} (s : ByteArray) : s ++ repB (⟨#[0]⟩ : ByteArray) (k * nE k s.size - s.size) = ⟨⟨padL k s⟩⟩ := by
  have e : repB (⟨#[0]⟩ : ByteArray) (k * nE k s.size - s.size) = ⟨⟨List.replicate (k * nE k s.size - s.size) 0⟩⟩ := by
    unfold repB
    have : (⟨#[0]⟩ : ByteArray).data.toList = [0] := rfl
    rw [this, repL]
  rw [e]
  exact ba_app (bl s) _
theorem row_fill {h : AHeap} {ob T i k : Nat} {f : Nat → ByteArray} {cap : Nat} (hb : h.get ob = some (outB encS 9 (filT f T i))) (hl : ob < h.next) (hk : k ≤ i) : Row encS h (⟨some ⟨ob, 0, some 0⟩, k, cap⟩ : Slc) ((List.range k).map f) := by
  have := Row.of_block (enc := encS) (h := h) (xs := (List.range k).map f) (b := ob) (o := 0) (sp := some 0) (cap := cap) (c := (filT f T i).map encS) (e := 9) (r := true) (fz := 0) hb hl (fun j x hx => by
    have hj : j < k := by
      have := (List.getElem?_eq_some_iff.1 hx).1; simpa using this
    have hx' : x = f j := by simp [hj] at hx; exact hx.symm
    rw [Nat.zero_add, List.getElem?_map, filT_get (show j < i by omega), hx']; rfl)
  simpa using this
theorem shard_piece {k i : Nat} (s : ByteArray) (hi : i < k) : shardB k s i = pieceB k s i := by unfold shardB; rw [if_pos hi]
theorem pieces_range {k : Nat} (s : ByteArray) : (List.range k).map (shardB k s) = piecesL k s := by
  apply List.map_congr_left
  intro i hi
  exact shard_piece s (List.mem_range.1 hi)
theorem sub_piece {k i : Nat} (hk : 0 < k) (hk2 : k ≤ 255) (s : ByteArray) (hs : s.size ≤ 65536) (hi : i < k) :
    Gx.subS (⟨⟨padL k s⟩⟩ : ByteArray) (some (IntKind.wrap .i64 ((i : Int) * ((nE k s.size : Nat) : Int)))) (some (IntKind.wrap .i64 ((IntKind.wrap .i64 ((i : Int) + 1)) * ((nE k s.size : Nat) : Int)))) = some (pieceB k s i) := by
  have hn := nE_le hk s.size
  generalize hnn : nE k s.size = n at *
  have h1 : (i + 1) * n ≤ k * n := Nat.mul_le_mul_right _ hi
  have h2 : i * n ≤ (i + 1) * n := Nat.mul_le_mul_right _ (by omega)
  have e1 : (i : Int) * (n : Int) = ((i * n : Nat) : Int) := by simp
  have e3 : IntKind.wrap .i64 ((i : Int) + 1) = ((i + 1 : Nat) : Int) := by rw [w64 _ (by omega)]; omega
  have e4 : ((i + 1 : Nat) : Int) * (n : Int) = (((i + 1) * n : Nat) : Int) := by simp
  rw [e3, e4, e1, w64 ((i * n : Nat) : Int) (by omega), w64 (((i + 1) * n : Nat) : Int) (by omega)]
  have hsz : (⟨⟨padL k s⟩⟩ : ByteArray).size = k * n := by rw [size_mk, padL_length hk, hnn]
  rw [subS_of (i := i * n) (j := (i + 1) * n) rfl rfl h2 (by rw [hsz]; exact h1)]
  unfold pieceB; rw [hnn]; rfl
abbrev sl1T := Option Addr → ByteArray → Int → Slc → Int → Int → AHeap → Option ((Slc × Int) × AHeap)
theorem split_l1 (K : Nat) (D : CallF) (j) (bot : sl1T) (p : Option Addr) {k m : Nat} (hk : 0 < k) (hk2 : k ≤ 255) (s : ByteArray) (hs : s.size ≤ 65536) {ob : Nat} : ∀ (d i : Nat) (h : AHeap), i + d = k → ob < h.next → h.get ob = some (outB encS 9 (filT (shardB k s) (k + m) i)) →
    ∃ h', iterK bot (d + 1) (stripe_Plan_Split_l1b K D j) p (⟨⟨padL k s⟩⟩ : ByteArray) ((nE k s.size : Nat) : Int) (⟨some ⟨ob, 0, some 0⟩, i, k + m⟩ : Slc) (k : Int) (i : Int) h = j p (⟨some ⟨ob, 0, some 0⟩, k, k + m⟩ : Slc) h' ∧
      h'.get ob = some (outB encS 9 (filT (shardB k s) (k + m) k)) ∧ Chg (· = ob) h h'
  | 0, i, h, hi, hl, hb => by
    obtain rfl : i = k := by omega
    refine ⟨h, ?_, hb, Chg.refl _ _⟩
    rw [iterK_s]; simp only [stripe_Plan_Split_l1b]
    exact ifn (by simp) rfl
  | d + 1, i, h, hi, hl, hb => by
    let h1 := h.new (.cells [.string (pieceB k s i)] 9 true 0)
    have k1 : Keeps h h1 := Keeps.new _ _
    have hb1 : h1.get ob = some (outB encS 9 (filT (shardB k s) (k + m) i)) := (k1.oth _ hl (fun f => f)).trans hb
    let h2 := h1.set ob (outB encS 9 (filT (shardB k s) (k + m) (i + 1)))
    have c2 : Chg (· = ob) h1 h2 := Chg.set (.inr rfl)
    obtain ⟨h', r, b', c'⟩ := split_l1 K D j bot p hk hk2 s hs (m := m) (ob := ob) d (i + 1) h2 (by omega) (by show ob < h.next + 1; omega) (set_get _ _ _)
    refine ⟨h', ?_, b', (Chg.keeps k1).trans (c2.trans c')⟩
    rw [iterK_s]; simp only [stripe_Plan_Split_l1b]
    refine ifp (by simp; omega) ?_
    refine bnd (sub_piece hk hk2 s hs (by omega)) ?_
    refine bnd rdS_one ?_
    refine bnd (fil_push hb1 (by omega) (by rw [shard_piece s (by omega)])) ?_
    rw [w1 (by omega)]
    exact r
theorem srow_spec (k0 : Nat) (D : CallF) {h : AHeap} {pb f2 B sb fb k m : Nat} (p : PL h pb f2 B sb fb k m) (hk : 0 < k) (hR : k + m ≤ 255) {i : Nat} (hi : i < k + m) :
    ∃ h', stripe_Plan_row k0 D (some ⟨pb, 0, none⟩) (((k + m : Nat) : Int), (k : Int), whole B ((k + m) * k)) (i : Int) h = some ((⟨some ⟨B, i * k, some 0⟩, k, (k + m) * k - i * k⟩ : Slc), h') ∧ Keeps h h' := by
  simp only [stripe_Plan_row]
  let h1 := h.new (.cells (mcell ((k + m : Nat) : Int) (k : Int) (whole B ((k + m) * k))) 84 true 0)
  have k1 : Keeps h h1 := Keeps.new _ _
  have b1 : h1.get h.next = some (.cells (mcell ((k + m : Nat) : Int) (k : Int) (whole B ((k + m) * k))) 84 true 0) := by simp [h1]
  have p1 := p.keeps k1
  have l0 : ldI .i64 ⟨pb, 0, none⟩ h1 = some (k : Int) := ldI_at p1.blk rfl
  have hle : i * k + k ≤ (k + m) * k := by have := Nat.mul_le_mul_right k hi; rw [Nat.succ_mul] at this; exact this
  have hN : (k + m) * k ≤ 65025 := Nat.le_trans (Nat.mul_le_mul hR (show k ≤ 255 by omega)) (by decide)
  refine ⟨h1, ?_, k1⟩
  have hL : ldL ⟨h.next, 2, none⟩ h1 = some (whole B ((k + m) * k)) := by simp [ldL, AHeap.rd1, b1, mcell, decL, whole]
  refine bnd hL (bnd rfl (bnd l0 (bnd rfl (bnd l0 ?_))))
  exact bnd (subL_row hk hle (by omega) (by omega)) rfl
abbrev sl0T := Option Addr → Slc → Slc → Int → Int → AHeap → Option ((Slc × Int) × AHeap)
theorem mix_bounds {k : Nat} (hk : 0 < k) (hk2 : k ≤ 255) (s : ByteArray) (hs : s.size ≤ 65536) : ∀ x ∈ piecesL k s, x.size ≤ 66000 := fun x hx => by
  rw [pieces_mem hk hx]
  have := nE_le hk s.size
  have h2 : nE k s.size ≤ k * nE k s.size := Nat.le_mul_of_pos_left _ hk
  omega
theorem split_l0 {k0 : Nat} (hk0 : 70000 ≤ k0) (j) (bot : sl0T) {pb f2 B sb fb k m : Nat} (hk : 0 < k) (hR : k + m ≤ 255) (s : ByteArray) (hs : s.size ≤ 65536) {ob : Nat} (o1 : ob ≠ f2) (o2 : ob ≠ pb) (o3 : ob ≠ B) (o4 : ob ≠ sb) (o5 : ob ≠ fb) : ∀ (d i : Nat) (h : AHeap), i + d = m → PL h pb f2 B sb fb k m → ob < h.next → h.get ob = some (outB encS 9 (filT (shardB k s) (k + m) (k + i))) →
    ∃ h', iterK bot (d + 1) (stripe_Plan_Split_l0b k0 (DD k0) j) (some ⟨pb, 0, none⟩) (⟨some ⟨ob, 0, some 0⟩, k + i, k + m⟩ : Slc) (⟨some ⟨ob, 0, some 0⟩, k, k⟩ : Slc) (m : Int) (i : Int) h = j (⟨some ⟨ob, 0, some 0⟩, k + m, k + m⟩ : Slc) h' ∧
      h'.get ob = some (outB encS 9 (filT (shardB k s) (k + m) (k + m))) ∧ PL h' pb f2 B sb fb k m ∧ Chg (fun x => x = ob ∨ x = f2) h h'
  | 0, i, h, hi, p, hl, hb => by
    obtain rfl : i = m := by omega
    refine ⟨h, ?_, hb, p, Chg.refl _ _⟩
    rw [iterK_s]; simp only [stripe_Plan_Split_l0b]
    exact ifn (by simp) rfl
  | d + 1, i, h, hi, p, hl, hb => by
    obtain ⟨h1, r1, k1⟩ := srow_spec k0 (DD k0) p hk hR (i := k + i) (by omega)
    have p1 := p.keeps k1
    have hl1 : ob < h1.next := Nat.lt_of_lt_of_le hl k1.nx
    have hb1 : h1.get ob = some (outB encS 9 (filT (shardB k s) (k + m) (k + i))) := (k1.oth _ hl (fun f => f)).trans hb
    have Rp : Row encS h1 (⟨some ⟨ob, 0, some 0⟩, k, k⟩ : Slc) (piecesL k s) := by
      have := row_fill (cap := k) hb1 hl1 (show k ≤ k + i by omega)
      rwa [pieces_range] at this
    have hle : (k + i) * k + k ≤ (k + m) * k := by
      have := Nat.mul_le_mul_right k (show k + i + 1 ≤ k + m by omega); rw [Nat.succ_mul] at this; exact this
    have Rc := mat_row p1.mat p1.lb hle ((k + m) * k - (k + i) * k) (some 0)
    have mb := mix_bounds hk (by omega) s hs
    obtain ⟨h2, r2, s2⟩ := fmix_spec (k := k0) (by omega) p1.fld p1.lf Rp Rc (fun a ha => by cases ha; exact o1) (fun a ha => by cases ha; exact p1.n1) (by rw [piecesL_length]; omega) (by rw [rowC_length]; omega)
      (fun x hx => by have := mb x hx; omega) (by rw [piecesL_length]; omega) (by rw [rowC_length]; omega) (fun x hx => by have := mb x hx; omega)
    have p2 := p1.fs2 s2
    have hb2 : h2.get ob = some (outB encS 9 (filT (shardB k s) (k + m) (k + i))) := (s2.oth _ hl1 o1).trans hb1
    have hl2 : ob < h2.next := Nat.lt_of_lt_of_le hl1 s2.nx
    have ex : (mixA (piecesL k s) (rowC k (k + i))).1 = shardB k s (k + i) := by unfold shardB; rw [if_neg (by omega)]
    let h3 := h2.new (.cells [.string (mixA (piecesL k s) (rowC k (k + i))).1] 9 true 0)
    have k3 : Keeps h2 h3 := Keeps.new _ _
    have p3 := p2.keeps k3
    have hb3 : h3.get ob = some (outB encS 9 (filT (shardB k s) (k + m) (k + i))) := (k3.oth _ hl2 (fun f => f)).trans hb2
    let h4 := h3.set ob (outB encS 9 (filT (shardB k s) (k + m) (k + i + 1)))
    have c4 : Chg (· = ob) h3 h4 := Chg.set (.inr rfl)
    have p4 : PL h4 pb f2 B sb fb k m := p3.chg c4 (fun e => o2 e.symm) (fun e => o1 e.symm) (fun e => o3 e.symm) (fun e => o4 e.symm) (fun e => o5 e.symm)
    obtain ⟨h', r, b', p', c'⟩ := split_l0 hk0 j bot hk hR s hs o1 o2 o3 o4 o5 d (i + 1) h4 (by omega) p4 (by show ob < h2.next + 1; omega) (set_get _ _ _)
    refine ⟨h', ?_, b', p', ?_⟩
    · rw [iterK_s]; simp only [stripe_Plan_Split_l0b]
      refine ifp (by simp; omega) ?_
      refine bnd rfl ?_
      have q1 : ldA 3 (⟨pb, 0 + 4, none⟩ : Addr) h = some (mcell ((k + m : Nat) : Int) (k : Int) (whole B ((k + m) * k))) := by
        simp only [ldA, AHeap.rdL, p.blk]; rfl
      refine bnd q1 (bnd rfl ?_)
      refine bnd rfl (bnd (ldI_at p.blk rfl) ?_)
      have e1 : IntKind.wrap .i64 ((k : Int) + (i : Int)) = ((k + i : Nat) : Int) := by rw [w64 _ (by omega)]; omega
      rw [e1]
      refine bnd r1 ?_
      have q2 : ldP (⟨pb, 0 + 2, none⟩ : Addr) h1 = some (some ⟨f2, 0, none⟩) := by simp [ldP, AHeap.rd1, p1.blk, decP]
      have q3 : ldP (⟨pb, 0 + 2, none⟩ : Addr) h = some (some ⟨f2, 0, none⟩) := by simp [ldP, AHeap.rd1, p.blk, decP]
      refine bnd rfl (bnd q2 (gp (sw1 (bnd q3 rfl)) ?_))
      refine bnd r2 ?_
      refine bnd rdS_one ?_
      refine bnd (fil_push hb3 (by omega) ex) ?_
      rw [w1 (by omega)]
      exact r
    · have a1 : Chg (fun x => x = ob ∨ x = f2) h h1 := k1.keeps
      have a2 : Chg (fun x => x = ob ∨ x = f2) h1 h2 := s2.chg.wk fun x _ e => .inr e
      have a3 : Chg (fun x => x = ob ∨ x = f2) h2 h3 := k3.keeps
      have a4 : Chg (fun x => x = ob ∨ x = f2) h3 h4 := c4.wk fun x _ e => .inl e
      exact a1.trans (a2.trans (a3.trans (a4.trans c')))
theorem split_spec {k0 : Nat} (hk0 : 70000 ≤ k0) {h : AHeap} {pb f2 B sb fb k m : Nat} (p : PL h pb f2 B sb fb k m) (hk : 0 < k) (hR : k + m ≤ 255) (s : ByteArray) (hs : s.size ≤ 65536) :
    ∃ h' ob, stripe_Plan_Split k0 (DD k0) (some ⟨pb, 0, none⟩) s h = some (((⟨some ⟨ob, 0, some 0⟩, k + m, k + m⟩ : Slc), 0), h') ∧ h'.get ob = some (outB encS 9 (shardsL k m s)) ∧ h.next ≤ ob ∧ ob < h'.next ∧ PL h' pb f2 B sb fb k m ∧ Chg (· = f2) h h' := by
  simp only [stripe_Plan_Split]
  have re := each_spec k0 (DD k0) p hk (by omega) (s.size : Int)
  rw [eachA_nat hk hs] at re
  have l0 : ldI .i64 ⟨pb, 0, none⟩ h = some (k : Int) := ldI_at p.blk rfl
  have l1 : ldI .i64 ⟨pb, 1, none⟩ h = some (m : Int) := ldI_at p.blk rfl
  have hge := nE_ge hk s.size
  have hle := nE_le hk s.size
  have ekn : (k : Int) * ((nE k s.size : Nat) : Int) = ((k * nE k s.size : Nat) : Int) := by simp
  have et : IntKind.wrap .i64 ((IntKind.wrap .i64 ((k : Int) * ((nE k s.size : Nat) : Int))) - (s.size : Int)) = ((k * nE k s.size - s.size : Nat) : Int) := by
    rw [ekn, w64 ((k * nE k s.size : Nat) : Int) (by omega), w64 _ (by omega)]; omega
  have hrep : repeatA (⟨#[0]⟩ : ByteArray) ((k * nE k s.size - s.size : Nat) : Int) = some (repB (⟨#[0]⟩ : ByteArray) (k * nE k s.size - s.size)) := by
    unfold repeatA
    rw [if_pos ⟨by omega, by omega, by rw [Int.toNat_natCast]; show 1 * _ ≤ _; omega⟩, Int.toNat_natCast]
  have hrs : (repB (⟨#[0]⟩ : ByteArray) (k * nE k s.size - s.size)).size = k * nE k s.size - s.size := by
    unfold repB
    have e1 : (⟨#[0]⟩ : ByteArray).data.toList = [0] := rfl
    rw [e1, repL]; exact (size_mk _).trans List.length_replicate
  have ekm : IntKind.wrap .i64 ((k : Int) + (m : Int)) = ((k + m : Nat) : Int) := by rw [w64 _ (by omega)]; omega
  let ob := h.next
  let h1 := h.new (outB encS 9 (filT (shardB k s) (k + m) 0))
  have k1 : Keeps h h1 := Keeps.new _ _
  have hz : (zerosL (((k + m : Nat) : Int)).toNat [.string ⟨#[]⟩]) = (filT (shardB k s) (k + m) 0).map encS := by
    rw [Int.toNat_natCast]; simp [zerosL, filT, encS, emT]
  have b1 : h1.get ob = some (outB encS 9 (filT (shardB k s) (k + m) 0)) := by simp [h1, ob]
  have p1 := p.keeps k1
  have hlp := p.lp; have hlf := p.lf; have hlb := p.lb; have hls := p.spc.ls; have hlg := p.spc.lf
  generalize hj14 : (fun (p11 : Option Addr) (out12 : Slc) (h13 : AHeap) => (p11.bind fun p15 => _ : Option ((Slc × Int) × AHeap))) = j14
  unfold stripe_Plan_Split_l1
  obtain ⟨bot1, e1⟩ := iterK_of (α := sl1T) (fun _ _ _ _ _ _ _ => none) (stripe_Plan_Split_l1b k0 (DD k0) j14) (show k + 1 ≤ k0 by omega)
  obtain ⟨h2, r2, b2, c2⟩ := split_l1 k0 (DD k0) j14 bot1 (some ⟨pb, 0, none⟩) hk (by omega) s hs (m := m) (ob := ob) k 0 h1 (by omega) (by show h.next < h.next + 1; omega) b1
  have p2 : PL h2 pb f2 B sb fb k m := p1.chg c2 (fun e => by have : pb = h.next := e; omega) (fun e => by have : f2 = h.next := e; omega) (fun e => by have : B = h.next := e; omega) (fun e => by have : sb = h.next := e; omega) (fun e => by have : fb = h.next := e; omega)
  have hl2 : ob < h2.next := Nat.lt_of_lt_of_le (by show h.next < h.next + 1; omega) c2.nx
  obtain ⟨bot0, e0⟩ := iterK_of (α := sl0T) (fun _ _ _ _ _ _ => none) (stripe_Plan_Split_l0b k0 (DD k0) fun (out20 : Slc) (h21 : AHeap) => some ((out20, 0), h21)) (show m + 1 ≤ k0 by omega)
  obtain ⟨h3, r3, b3, p3, c3⟩ := split_l0 hk0 (fun (out20 : Slc) (h21 : AHeap) => some ((out20, 0), h21)) bot0 (pb := pb) (f2 := f2) (B := B) (sb := sb) (fb := fb) hk hR s hs (ob := ob) (by show h.next ≠ _; omega) (by show h.next ≠ _; omega) (by show h.next ≠ _; omega) (by show h.next ≠ _; omega) (by show h.next ≠ _; omega) m 0 h2 (by omega) p2 hl2 b2
  refine ⟨h3, ob, ?_, ?_, Nat.le_refl _, Nat.lt_of_lt_of_le hl2 c3.nx, p3, ?_⟩
  · refine bnd re ?_
    refine ifn (by simp) ?_
    refine bnd rfl (bnd l0 ?_)
    rw [et]
    refine bnd hrep ?_
    refine ifp (by rw [hrs]; omega) ?_
    refine bnd rfl (bnd l0 (bnd rfl (bnd l1 ?_)))
    rw [ekm]
    refine ifp (by omega) ?_
    rw [hz]
    refine jn ?_
    refine bnd rfl (bnd (ldI_at p1.blk rfl) ?_)
    rw [pad_bl, Int.toNat_natCast]
    show iterK _ k0 (stripe_Plan_Split_l1b k0 (DD k0) j14) (some ⟨pb, 0, none⟩) (⟨⟨padL k s⟩⟩ : ByteArray) ((nE k s.size : Nat) : Int) (⟨some ⟨ob, 0, some 0⟩, 0, k + m⟩ : Slc) (k : Int) ((0 : Nat) : Int) h1 = _
    rw [e1, r2]
    subst hj14
    refine bnd rfl (bnd (ldI_at p2.blk rfl) (bnd rfl (bnd (ldI_at p2.blk rfl) ?_)))
    have hsub : Gx.subL 1 (⟨some ⟨ob, 0, some 0⟩, k, k + m⟩ : Slc) none (some (k : Int)) (some (k : Int)) = some (⟨some ⟨ob, 0, some 0⟩, k, k⟩ : Slc) := by
      simp only [Gx.subL, Option.getD_none, Option.getD_some]
      rw [if_pos (by omega), if_pos (show spOk (some 0) 1 = true from rfl), if_neg (by omega)]
      simp
    refine bnd hsub ?_
    refine jn ?_
    refine bnd rfl (bnd (ldI_at p2.blk rfl) ?_)
    unfold stripe_Plan_Split_l0
    rw [e0]
    exact r3
  · rw [b3, filT_all]; rfl
  · exact Chg.beh k1.keeps ((c2.wk (T := fun x => x = ob ∨ x = f2) fun x _ e => .inl e).trans c3) (fun x hx e => by
      rcases e with e | e
      · have : x = h.next := e; omega
      · exact e)
end Gz
namespace Gz
open Go Gx Go.Proofs
theorem beh_acc {α : Type} {enc : α → Value} {e : TypeId} {h0 h h' : AHeap} {s : Slc} {xs : List α} (k : Keeps h0 h) (A : Acc enc e h0.next h s xs) (c : Chg (ofS s) h h') : Keeps h0 h' :=
  Chg.beh k c fun x hx e => by
    obtain ⟨a, ha, rfl⟩ := e
    have := (A.lt a ha).2
    omega
theorem encS_one : ∀ x : ByteArray, one (encS x) = true := fun _ => rfl
end Gz
namespace Gz
open Go Gx Go.Proofs
def Tru {R : Type} (x : Option (R × AHeap)) (v : R) : Prop := ∃ h', x = some (v, h')
theorem Tru.bnd {R α : Type} {v : R} {x : Option α} {a : α} {f : α → Option (R × AHeap)} (h : x = some a) (k : Tru (f a) v) : Tru (x.bind f) v := by rw [h]; exact k
theorem Tru.jn {R α : Type} {v : R} {J : α} {b : α → Option (R × AHeap)} (k : ∀ j, j = J → Tru (b j) v) : Tru (joinK J b) v := k J rfl
theorem Tru.ifp {R : Type} {v : R} {c : Prop} [Decidable c] {a b : Option (R × AHeap)} (h : c) (k : Tru a v) : Tru (if c then a else b) v := by rw [if_pos h]; exact k
theorem Tru.ifn {R : Type} {v : R} {c : Prop} [Decidable c] {a b : Option (R × AHeap)} (h : ¬ c) (k : Tru b v) : Tru (if c then a else b) v := by rw [if_neg h]; exact k
theorem Tru.of {R : Type} {v : R} {h : AHeap} : Tru (some (v, h)) v := ⟨h, rfl⟩
theorem shards_get {k m i : Nat} (s : ByteArray) (hi : i < k + m) : (shardsL k m s)[i]? = some (shardB k s i) := by simp [shardsL, hi]
theorem shardsL_length (k m : Nat) (s : ByteArray) : (shardsL k m s).length = k + m := by simp [shardsL]
theorem shards_row {h : AHeap} {ob k m : Nat} {s : ByteArray} (hb : h.get ob = some (outB encS 9 (shardsL k m s))) (hl : ob < h.next) : Row encS h (⟨some ⟨ob, 0, some 0⟩, k + m, k + m⟩ : Slc) (shardsL k m s) := by
  rw [show shardsL k m s = filT (shardB k s) (k + m) (k + m) from filT_all.symm] at hb
  have := row_fill (cap := k + m) hb hl (Nat.le_refl _)
  exact this
end Gz
namespace Gz
open Go Gx Go.Proofs
abbrev Prt := Int × ByteArray
def enc2 (x : Prt) : List Value := [.int .i64 x.1, .string x.2]
structure Row2 (h : AHeap) (s : Slc) (xs : List Prt) : Prop where
  len : s.len = xs.length
  at' : ∀ (i : Nat) (x : Prt), xs[i]? = some x → ∃ a c e r fz, s.a = some a ∧ a.block < h.next ∧ h.get a.block = some (.cells c e r fz) ∧ c[a.off + i * 2]? = some (.int .i64 x.1) ∧ c[a.off + i * 2 + 1]? = some (.string x.2)
theorem Row2.nil (h : AHeap) (a : Option Addr) (cap : Nat) : Row2 h ⟨a, 0, cap⟩ [] := ⟨rfl, fun i x hx => by simp at hx⟩
theorem Row2.chg {S : Nat → Prop} {h h' : AHeap} {s : Slc} {xs : List Prt} (R : Row2 h s xs) (c : Chg S h h') (hs : ∀ a, s.a = some a → ¬ S a.block) : Row2 h' s xs :=
  ⟨R.len, fun i x hx => by
    obtain ⟨a, cs, e, r, fz, h1, h2, h3, h4⟩ := R.at' i x hx
    exact ⟨a, cs, e, r, fz, h1, Nat.lt_of_lt_of_le h2 c.nx, (c.oth _ h2 (hs a h1)).trans h3, h4⟩⟩
theorem Row2.keeps {h h' : AHeap} {s : Slc} {xs : List Prt} (R : Row2 h s xs) (c : Keeps h h') : Row2 h' s xs := R.chg c fun _ _ f => f
theorem drop_two {c : List Value} {o : Nat} {u v : Value} (h1 : c[o]? = some u) (h2 : c[o + 1]? = some v) : (c.drop o).take 2 = [u, v] := by
  rw [dropc h1, dropc h2]; rfl
theorem Row2.ld {h : AHeap} {s : Slc} {xs : List Prt} (R : Row2 h s xs) {i : Nat} {x : Prt} (hx : xs[i]? = some x) : ∃ q, idxL 2 s (i : Int) = some q ∧ ldA 2 q h = some (enc2 x) := by
  obtain ⟨a, c, e, r, fz, h1, h2, h3, h4, h5⟩ := R.at' i x hx
  have hi : i < s.len := by rw [R.len]; exact (List.getElem?_eq_some_iff.1 hx).1
  refine ⟨⟨a.block, a.off + i * 2, none⟩, ?_, ?_⟩
  · simp only [idxL, h1]
    rw [if_pos (by omega), Int.toNat_natCast]
  · have hlen : a.off + i * 2 + 1 < c.length := (List.getElem?_eq_some_iff.1 h5).1
    simp only [ldA, AHeap.rdL, h3]
    rw [if_pos (by omega), drop_two h4 h5]; rfl
theorem dec2 (x : Prt) : decC [.i .i64, .s] (enc2 x) = some x := rfl
def flat2 (xs : List Prt) : List Value := xs.flatMap enc2
theorem flat2_length (xs : List Prt) : (flat2 xs).length = xs.length * 2 := by
  induction xs with
  | nil => rfl
  | cons x xs ih => simp only [flat2, List.flatMap_cons, List.length_append] at ih ⊢; rw [ih]; simp [enc2]; omega
theorem flat2_append (xs ys : List Prt) : flat2 (xs ++ ys) = flat2 xs ++ flat2 ys := by simp [flat2]
theorem flat2_one : ∀ xs : List Prt, allOne (flat2 xs) = true
  | [] => rfl
  | x :: xs => by
    have := flat2_one xs
    simpa [flat2, enc2, allOne, one] using this
theorem flat2_get : ∀ {xs : List Prt} {i : Nat} {x : Prt}, xs[i]? = some x → (flat2 xs)[i * 2]? = some (.int .i64 x.1) ∧ (flat2 xs)[i * 2 + 1]? = some (.string x.2)
  | [], i, x, h => by simp at h
  | y :: xs, 0, x, h => by simp at h; subst h; exact ⟨rfl, rfl⟩
  | y :: xs, i + 1, x, h => by
    have := flat2_get (xs := xs) (i := i) (x := x) (by simpa using h)
    have e : flat2 (y :: xs) = .int .i64 y.1 :: .string y.2 :: flat2 xs := rfl
    rw [e, show (i + 1) * 2 = i * 2 + 1 + 1 by omega]
    simpa using this
theorem row2_blk {h : AHeap} {b n cap : Nat} {sp : Option Nat} {xs : List Prt} {e : TypeId} {r : Bool} {fz : Nat} (hb : h.get b = some (.cells (flat2 xs) e r fz)) (hl : b < h.next) (hn : n = xs.length) : Row2 h ⟨some ⟨b, 0, sp⟩, n, cap⟩ xs :=
  ⟨hn, fun i x hx => by
    obtain ⟨h1, h2⟩ := flat2_get hx
    exact ⟨_, _, _, _, _, rfl, hl, hb, by rw [Nat.zero_add]; exact h1, by rw [Nat.zero_add]; exact h2⟩⟩
structure Acc2 (base : Nat) (h : AHeap) (s : Slc) (xs : List Prt) : Prop where
  st : (s = ⟨none, 0, 0⟩ ∧ xs = []) ∨ ∃ b, s = ⟨some ⟨b, 0, some 3⟩, xs.length, xs.length⟩ ∧ h.get b = some (.cells (flat2 xs) 61 true 0) ∧ xs ≠ []
  lt : ∀ a, s.a = some a → a.block < h.next ∧ base ≤ a.block
theorem Acc2.nil (base : Nat) (h : AHeap) : Acc2 base h ⟨none, 0, 0⟩ [] := ⟨.inl ⟨rfl, rfl⟩, fun a ha => by cases ha⟩
theorem Acc2.chg {S : Nat → Prop} {base : Nat} {h h' : AHeap} {s : Slc} {xs : List Prt} (A : Acc2 base h s xs) (c : Chg S h h') (hs : ∀ a, s.a = some a → ¬ S a.block) : Acc2 base h' s xs := by
  refine ⟨A.st.imp id ?_, fun a ha => ⟨Nat.lt_of_lt_of_le (A.lt a ha).1 c.nx, (A.lt a ha).2⟩⟩
  rintro ⟨b, h1, h2, h3⟩
  have hb := A.lt ⟨b, 0, some 3⟩ (by rw [h1])
  exact ⟨b, h1, (c.oth b hb.1 (hs ⟨b, 0, some 3⟩ (by rw [h1]))).trans h2, h3⟩
theorem Acc2.keeps {base : Nat} {h h' : AHeap} {s : Slc} {xs : List Prt} (A : Acc2 base h s xs) (c : Keeps h h') : Acc2 base h' s xs := A.chg c fun _ _ f => f
theorem Acc2.row {base : Nat} {h : AHeap} {s : Slc} {xs : List Prt} (A : Acc2 base h s xs) : Row2 h s xs := by
  rcases A.st with ⟨rfl, rfl⟩ | ⟨b, rfl, h2, h3⟩
  · exact Row2.nil _ _ _
  · exact row2_blk h2 (A.lt ⟨b, 0, some 3⟩ rfl).1 rfl
theorem Acc2.len {base : Nat} {h : AHeap} {s : Slc} {xs : List Prt} (A : Acc2 base h s xs) : s.len = xs.length := A.row.len
theorem rdS_two {h : AHeap} {x : Prt} {e : TypeId} : Gx.rdS 2 (⟨some ⟨h.next, 0, some 0⟩, 1, 1⟩ : Slc) (h.new (.cells (enc2 x) e true 0)) = some (enc2 x) := by
  have := rdL_all (h := h.new (.cells (enc2 x) e true 0)) (b := h.next) (c := enc2 x) (e := e) (r := true) (fz := 0) (by simp)
  simpa [Gx.rdS, enc2] using this
theorem Acc2.push {base : Nat} {h : AHeap} {s : Slc} {xs : List Prt} (A : Acc2 base h s xs) (x : Prt) (hs : xs.length ≤ 1000000) (hbase : base ≤ h.next) :
    ∃ s' h', appendA 2 24 61 h s (enc2 x) 1 = some (s', h') ∧ Acc2 base h' s' (xs ++ [x]) ∧ Chg (ofS s) h h' := by
  rcases A.st with ⟨rfl, rfl⟩ | ⟨b, rfl, h2, h3⟩
  · refine ⟨⟨some ⟨h.next, 0, some 3⟩, 1, 1⟩, h.new (.cells (enc2 x) 61 true 0), ?_, ⟨.inr ⟨h.next, rfl, by simp [flat2], by simp⟩, ?_⟩, (Keeps.new h _).wk fun _ _ f => f.elim⟩
    · simp only [appendA]
      rw [if_neg (by omega), if_pos (by omega)]
    · intro a ha; cases ha; simp; omega
  · have hb := A.lt ⟨b, 0, some 3⟩ rfl
    have hl := flat2_length xs
    have e : flat2 xs ++ enc2 x = flat2 (xs ++ [x]) := by rw [flat2_append]; simp [flat2]
    refine ⟨⟨some ⟨h.next, 0, some 3⟩, xs.length + 1, xs.length + 1⟩, (h.kill b).new (.cells (flat2 (xs ++ [x])) 61 true 0), ?_, ⟨.inr ⟨h.next, by simp, by simp, by simp⟩, ?_⟩, ?_⟩
    · have hx : 0 < xs.length := List.length_pos_iff.2 h3
      simp only [appendA]
      rw [if_neg (by omega), if_pos (by omega)]
      simp only [h2]
      rw [if_pos ⟨by omega, trivial, by omega, by omega, trivial, trivial, rfl⟩, ← hl, List.take_length, e]
    · intro a ha; cases ha; simp; omega
    · exact Chg.kill_new (.inr ⟨⟨b, 0, some 3⟩, rfl, rfl⟩)
theorem beh_acc2 {h0 h h' : AHeap} {s : Slc} {xs : List Prt} (k : Keeps h0 h) (A : Acc2 h0.next h s xs) (c : Chg (ofS s) h h') : Keeps h0 h' :=
  Chg.beh k c fun x hx e => by
    obtain ⟨a, ha, rfl⟩ := e
    have := (A.lt a ha).2
    omega
theorem Acc.push' {α : Type} {enc : α → Value} {e : TypeId} {base bytes : Nat} {h : AHeap} {s : Slc} {xs : List α} (A : Acc enc e base h s xs) (ho : ∀ x, one (enc x) = true) (x : α) (hs : 2 * (xs.length + 1) * bytes ≤ 281474976710656) (h1 : 1 ≤ bytes) (hbase : base ≤ h.next) :
    ∃ s' h', appendA 1 bytes e h s [enc x] 1 = some (s', h') ∧ Acc enc e base h' s' (xs ++ [x]) ∧ Chg (ofS s) h h' ∧ ∀ a, s'.a = some a → h.next ≤ a.block := by
  rcases A.st with ⟨rfl, rfl⟩ | ⟨b, g⟩
  · refine ⟨⟨some ⟨h.next, 0, some 2⟩, 1, 1⟩, h.new (outB enc e [x]), ?_, ⟨.inr ⟨h.next, rfl, by simp, by simp⟩, ?_⟩, (Keeps.new h _).wk fun _ _ f => f.elim, ?_⟩
    · simp only [appendA]
      rw [if_neg (by omega), if_pos (by simp at hs ⊢; omega)]
      rfl
    · intro a ha; cases ha; simp; omega
    · intro a ha; cases ha; simp
  · have hb := A.lt ⟨b, 0, some 2⟩ (by rw [g.s])
    have ap := g.append (bytes := bytes) (ys := [x]) ho (by simp) (by simpa using hs) h1
    refine ⟨_, _, ap, ⟨.inr ⟨h.next, rfl, by simp, by simp⟩, ?_⟩, Chg.kill_new (.inr ⟨⟨b, 0, some 2⟩, by rw [g.s], rfl⟩), ?_⟩
    · intro a ha; cases ha; simp; omega
    · intro a ha; cases ha; simp
end Gz
namespace Gz
open Go Gx Go.Proofs
def idxs (out : List Prt) : List Int := out.map (·.1)
def mapE : List Prt → Nat → List (Value × Value × Nat)
  | [], _ => []
  | x :: l, i => (.int .i64 x.1, .bool true, i) :: mapE l (i + 1)
theorem mapE_append : ∀ (l : List Prt) (x : Prt) (i : Nat), mapE (l ++ [x]) i = mapE l i ++ [(.int .i64 x.1, .bool true, i + l.length)]
  | [], x, i => rfl
  | y :: l, x, i => by
    simp only [List.cons_append, mapE, mapE_append l x (i + 1), List.length_cons]
    rw [show i + 1 + l.length = i + (l.length + 1) by omega]
theorem find_mem (a : Int) : ∀ (out : List Prt) (b c : Nat), a ∈ idxs out → ∃ p, findE (.int .i64 a) (mapE out b) c = some (some (p, .bool true))
  | [], b, c, h => by simp [idxs] at h
  | x :: l, b, c, h => by
    by_cases e : a = x.1
    · subst e; exact ⟨c, by simp [mapE, findE, keyEq]⟩
    · have : a ∈ idxs l := by simp [idxs, e] at h ⊢; exact h
      obtain ⟨p, hp⟩ := find_mem a l (b + 1) (c + 1) this
      refine ⟨p, ?_⟩
      have hb : (a == x.1) = false := by simpa using e
      simp only [mapE, findE, keyEq, decide_true, cond_true, hb]
      exact hp
theorem find_not (a : Int) : ∀ (out : List Prt) (b c : Nat), a ∉ idxs out → findE (.int .i64 a) (mapE out b) c = some none
  | [], b, c, _ => rfl
  | x :: l, b, c, h => by
    have e : a ≠ x.1 := fun e => h (by simp [idxs, e])
    have h2 : a ∉ idxs l := fun e => h (by simp [idxs] at e ⊢; exact .inr e)
    have hb : (a == x.1) = false := by simpa using e
    simp only [mapE, findE, keyEq, decide_true, cond_true, hb]
    exact find_not a l (b + 1) (c + 1) h2
theorem look_seen {h : AHeap} {mb : Nat} {out : List Prt} (hb : h.get mb = some (.map (mapE out 0) out.length)) (a : Int) : ∃ b, lookE decB (.bool false) h (some mb) (.int .i64 a) = some (decide (a ∈ idxs out), b) := by
  simp only [lookE, hb]
  by_cases e : a ∈ idxs out
  · obtain ⟨p, hp⟩ := find_mem a out 0 0 e
    exact ⟨true, by simp [hp, decB, e]⟩
  · exact ⟨false, by simp [find_not a out 0 0 e, decB, e]⟩
theorem upd_seen {h : AHeap} {mb : Nat} {out : List Prt} (hb : h.get mb = some (.map (mapE out 0) out.length)) (x : Prt) (e : x.1 ∉ idxs out) : updE h mb (.int .i64 x.1) (.bool true) = some (h.set mb (.map (mapE (out ++ [x]) 0) (out ++ [x]).length)) := by
  simp only [updE, hb, find_not x.1 out 0 0 e, mapE_append, Nat.zero_add, List.length_append, List.length_singleton]
def goodP (k m : Nat) (n : Int) (x : Prt) : Int := if ¬ (0 ≤ x.1 ∧ x.1 < ((k + m : Nat) : Int)) then 1 else if (x.2.size : Int) ≠ n then 4 else 0
def takeP (k : Nat) (out : List Prt) (x : Prt) : List Prt := if x.1 ∉ idxs out ∧ out.length < k then out ++ [x] else out
def unl (k m : Nat) (n : Int) : List Prt → List Prt → List Prt × Int
  | [], out => (out, 0)
  | x :: l, out => if goodP k m n x ≠ 0 then ([], goodP k m n x) else unl k m n l (takeP k out x)
theorem known_spec (k0 : Nat) (D : CallF) {h : AHeap} {pb f2 B sb fb k m : Nat} (p : PL h pb f2 B sb fb k m) (hR : k + m ≤ 255) (i : Int) : stripe_Plan_known k0 D (some ⟨pb, 0, none⟩) i h = some (decide (0 ≤ i ∧ i < ((k + m : Nat) : Int)), h) := by
  simp only [stripe_Plan_known]
  by_cases c : i ≥ 0
  · refine ifp (decide_eq_true c) ?_
    refine bnd rfl (bnd (ldI_at p.blk rfl) (bnd rfl (bnd (ldI_at p.blk rfl) ?_)))
    rw [w64 ((k : Int) + (m : Int)) (by omega)]
    have : ((k : Int) + (m : Int)) = ((k + m : Nat) : Int) := by omega
    rw [this]; congr 3; rw [eq_iff_iff]; exact ⟨fun q => ⟨c, q⟩, fun q => q.2⟩
  · refine ifn (by simpa using c) ?_
    rw [decide_eq_false (by omega)]
abbrev ulT := Option Addr → Int → Option Nat → Slc → Slc → Int → Int → AHeap → Option ((Slc × Int) × AHeap)
theorem unl_l0 (K : Nat) (D : CallF) (bot : ulT) {h0 : AHeap} {pb f2 B sb fb k m : Nat} (p : PL h0 pb f2 B sb fb k m) (hR : k + m ≤ 255) (n : Int) (y : Slc) {ps : List Prt} (R : Row2 h0 y ps) (hps : ps.length ≤ 1000000) {mb : Nat} (hmb : h0.next ≤ mb) :
    ∀ (d i : Nat) (h : AHeap) (o : Slc) (out : List Prt), i + d = ps.length → Keeps h0 h → mb < h.next → h.get mb = some (.map (mapE out 0) out.length) → Acc2 (mb + 1) h o out → out.length ≤ i →
    ∃ h' o', iterK bot (d + 1) (stripe_Plan_unlike_l0b K D (fun (out3 : Slc) (h4 : AHeap) => some ((out3, 0), h4))) (some ⟨pb, 0, none⟩) n (some mb) o y (ps.length : Int) (i : Int) h = some ((o', (unl k m n (ps.drop i) out).2), h') ∧ Keeps h0 h' ∧ Acc2 (mb + 1) h' o' (unl k m n (ps.drop i) out).1
  | 0, i, h, o, out, hi, kh, hm, hb, A, _ => by
    obtain rfl : i = ps.length := by omega
    rw [List.drop_length]
    refine ⟨h, o, ?_, kh, A⟩
    rw [iterK_s]; simp only [stripe_Plan_unlike_l0b]
    exact ifn (by simp) rfl
  | d + 1, i, h, o, out, hi, kh, hm, hb, A, ho => by
    obtain ⟨x, hx⟩ := isome (l := ps) (i := i) (by omega)
    obtain ⟨q, i1, i2⟩ := (R.keeps kh).ld hx
    rw [dropc hx]
    let xb := h.next
    let h28 := (h.new (.cells [.int .i64 0, .string ⟨#[]⟩] 61 true 0)).set xb (.cells (enc2 x) 61 true 0)
    have hz : (h.new (.cells [.int .i64 0, .string ⟨#[]⟩] 61 true 0)).get xb = some (.cells [.int .i64 0, .string ⟨#[]⟩] 61 true 0) := by simp [xb]
    have k28 : Keeps h h28 := Chg.beh (Keeps.new h _) (Chg.set (S := (· = xb)) (.inr rfl)) (fun w hw e => by have : w = h.next := e; omega)
    have hx28 : h28.get xb = some (.cells (enc2 x) 61 true 0) := set_get _ _ _
    have kh28 := kh.trans k28
    have p28 := p.keeps kh28
    have hb28 : h28.get mb = some (.map (mapE out 0) out.length) := (k28.oth _ hm (fun f => f)).trans hb
    have A28 := A.keeps k28
    have n28 : h28.next = h.next + 1 := rfl
    have hst := stL_at (sp := none) hz (n := 2) (cs := enc2 x) rfl rfl rfl (by decide)
    have hkn := known_spec K D p28 hR x.1
    have l0 : ldI .i64 ⟨xb, 0, none⟩ h28 = some x.1 := ldI_at hx28 rfl
    have l1 : ldS ⟨xb, 1, none⟩ h28 = some x.2 := ldS_at hx28 rfl
    by_cases g1 : 0 ≤ x.1 ∧ x.1 < ((k + m : Nat) : Int)
    · by_cases g2 : (x.2.size : Int) = n
      · have hg : goodP k m n x = 0 := by unfold goodP; rw [if_neg (by simpa using g1), if_neg (by simpa using g2)]
        have hun : unl k m n (x :: ps.drop (i + 1)) out = unl k m n (ps.drop (i + 1)) (takeP k out x) := by simp only [unl]; rw [if_neg (by simpa using hg)]
        obtain ⟨bb, hlk⟩ := look_seen hb28 x.1
        by_cases t : x.1 ∉ idxs out ∧ out.length < k
        · have ht : takeP k out x = out ++ [x] := by unfold takeP; rw [if_pos t]
          let h45 := h28.set mb (.map (mapE (out ++ [x]) 0) (out ++ [x]).length)
          have c45 : Chg (· = mb) h28 h45 := Chg.set (.inr rfl)
          have hx45 : h45.get xb = some (.cells (enc2 x) 61 true 0) := (c45.oth _ (by show h.next < h.next + 1; omega) (fun e => by have : h.next = mb := e; omega)).trans hx28
          let h50 := h45.new (.cells (enc2 x) 61 true 0)
          have k50 : Keeps h45 h50 := Keeps.new _ _
          have A45 : Acc2 (mb + 1) h45 o out := A28.chg c45 (fun a ha e => by have : a.block = mb := e; have := (A28.lt a ha).2; omega)
          have A50 := A45.keeps k50
          obtain ⟨o2, h51, ra, A51, c51⟩ := A50.push x (by omega) (by show mb + 1 ≤ h.next + 1 + 1; omega)
          have kh45 : Keeps h0 h45 := Chg.beh kh28 c45 (fun w hw e => by have : w = mb := e; omega)
          have kh51 : Keeps h0 h51 := Chg.beh (kh45.trans k50) c51 (fun w hw e => by
            obtain ⟨a, ha, rfl⟩ := e
            have := (A50.lt a ha).2; omega)
          have hb51 : h51.get mb = some (.map (mapE (out ++ [x]) 0) (out ++ [x]).length) := by
            rw [c51.oth mb (by show mb < h.next + 1 + 1; omega) (fun e => by
              obtain ⟨a, ha, he⟩ := e
              have := (A50.lt a ha).2; omega), k50.oth mb (by show mb < h.next + 1; omega) (fun f => f)]
            exact set_get _ _ _
          obtain ⟨h', o', r, k', A'⟩ := unl_l0 K D bot p hR n y R hps hmb d (i + 1) h51 o2 (out ++ [x]) (by omega) kh51 (by have := c51.nx; have : h50.next = h.next + 1 + 1 := rfl; omega) hb51 A51 (by simp; omega)
          rw [hun, ht]
          refine ⟨h', o', ?_, k', A'⟩
          rw [iterK_s]; simp only [stripe_Plan_unlike_l0b]
          refine ifp (by simp; omega) ?_
          refine jn ?_
          refine bnd i1 (bnd i2 (bnd (dec2 x) ?_))
          refine bnd hst (bnd l0 (bnd hkn ?_))
          refine ifn (by simpa using g1) ?_
          refine bnd l1 ?_
          refine ifn (by simpa using g2) ?_
          refine jn ?_
          refine bnd l0 (bnd hlk ?_)
          refine ifp (by simpa using t.1) ?_
          refine bnd rfl (bnd (ldI_at p28.blk rfl) ?_)
          refine ifp (by rw [A.len]; simpa using t.2) ?_
          refine bnd rfl (bnd l0 (bnd rfl ?_))
          refine bnd (upd_seen hb28 x t.1) ?_
          refine bnd rfl (bnd (ldA_at hx45 rfl) (bnd (dec2 x) ?_))
          refine bnd rdS_two (bnd ra ?_)
          rw [← w1 (i := i) (by omega)] at r
          exact r
        · have ht : takeP k out x = out := by unfold takeP; rw [if_neg t]
          obtain ⟨h', o', r, k', A'⟩ := unl_l0 K D bot p hR n y R hps hmb d (i + 1) h28 o out (by omega) kh28 (by omega) hb28 A28 (by omega)
          rw [hun, ht]
          refine ⟨h', o', ?_, k', A'⟩
          rw [iterK_s]; simp only [stripe_Plan_unlike_l0b]
          refine ifp (by simp; omega) ?_
          refine jn ?_
          refine bnd i1 (bnd i2 (bnd (dec2 x) ?_))
          refine bnd hst (bnd l0 (bnd hkn ?_))
          refine ifn (by simpa using g1) ?_
          refine bnd l1 ?_
          refine ifn (by simpa using g2) ?_
          refine jn ?_
          refine bnd l0 (bnd hlk ?_)
          by_cases e : x.1 ∈ idxs out
          · refine ifn (by simpa using e) ?_
            refine ifn (by decide) ?_
            rw [← w1 (i := i) (by omega)] at r
            exact r
          · refine ifp (by simpa using e) ?_
            refine bnd rfl (bnd (ldI_at p28.blk rfl) ?_)
            refine ifn (by rw [A.len]; simp; have : ¬ out.length < k := fun q => t ⟨e, q⟩; omega) ?_
            rw [← w1 (i := i) (by omega)] at r
            exact r
      · have hg : goodP k m n x = 4 := by unfold goodP; rw [if_neg (by simpa using g1), if_pos (by simpa using g2)]
        have hun : unl k m n (x :: ps.drop (i + 1)) out = ([], 4) := by simp only [unl]; rw [hg, if_pos (by decide)]
        rw [hun]
        refine ⟨h28, ⟨none, 0, 0⟩, ?_, kh28, Acc2.nil _ _⟩
        rw [iterK_s]; simp only [stripe_Plan_unlike_l0b]
        refine ifp (by simp; omega) ?_
        refine jn ?_
        refine bnd i1 (bnd i2 (bnd (dec2 x) ?_))
        refine bnd hst (bnd l0 (bnd hkn ?_))
        refine ifn (by simpa using g1) ?_
        refine bnd l1 ?_
        exact ifp (by simpa using g2) rfl
    · have hg : goodP k m n x = 1 := by unfold goodP; rw [if_pos g1]
      have hun : unl k m n (x :: ps.drop (i + 1)) out = ([], 1) := by simp only [unl]; rw [hg, if_pos (by decide)]
      rw [hun]
      refine ⟨h28, ⟨none, 0, 0⟩, ?_, kh28, Acc2.nil _ _⟩
      rw [iterK_s]; simp only [stripe_Plan_unlike_l0b]
      refine ifp (by simp; omega) ?_
      refine jn ?_
      refine bnd i1 (bnd i2 (bnd (dec2 x) ?_))
      refine bnd hst (bnd l0 (bnd hkn ?_))
      exact ifp (by rw [decide_eq_false g1]; rfl) rfl
def unlA (k m : Nat) (ps : List Prt) (long : Int) : List Prt × Int := if (eachA k long).2 ≠ 0 then ([], (eachA k long).2) else unl k m (eachA k long).1 ps []
theorem unlike_spec {k0 : Nat} (D : CallF) {h : AHeap} {pb f2 B sb fb k m : Nat} (p : PL h pb f2 B sb fb k m) (hk : 0 < k) (hR : k + m ≤ 255) {y : Slc} {ps : List Prt} (R : Row2 h y ps) (hps : ps.length ≤ 1000000) (hkp : ps.length < k0) (long : Int) :
    ∃ h' o, stripe_Plan_unlike k0 D (some ⟨pb, 0, none⟩) y long h = some ((o, (unlA k m ps long).2), h') ∧ Keeps h h' ∧ Acc2 (h.next + 1) h' o (unlA k m ps long).1 := by
  simp only [stripe_Plan_unlike]
  have re := each_spec k0 D p hk (by omega) long
  unfold unlA
  by_cases c : (eachA k long).2 = 0
  · rw [if_neg (by simpa using c)]
    let h2 := h.new (.map [] 0)
    have k2 : Keeps h h2 := Keeps.new _ _
    obtain ⟨bot1, e1⟩ := iterK_of (α := ulT) (fun _ _ _ _ _ _ _ _ => none) (stripe_Plan_unlike_l0b k0 D fun (out3 : Slc) (h4 : AHeap) => some ((out3, 0), h4)) (show ps.length + 1 ≤ k0 by omega)
    obtain ⟨h', o', r, k', A'⟩ := unl_l0 k0 D bot1 p hR (eachA k long).1 y R hps (mb := h.next) (Nat.le_refl _) ps.length 0 h2 ⟨none, 0, 0⟩ [] (by omega) k2 (by show h.next < h.next + 1; omega) (by simp [h2, mapE]) (Acc2.nil _ _) (by simp)
    rw [List.drop_zero] at r A'
    refine ⟨h', o', ?_, k', A'⟩
    refine bnd re ?_
    refine ifn (by simpa using c) ?_
    refine jn ?_
    rw [R.len]
    unfold stripe_Plan_unlike_l0
    rw [e1]
    exact r
  · rw [if_pos (by simpa using c)]
    refine ⟨h, ⟨none, 0, 0⟩, ?_, Chg.refl _ _, Acc2.nil _ _⟩
    refine bnd re ?_
    exact ifp (by simpa using c) rfl
end Gz
namespace Gz
open Go Gx Go.Proofs
section
variable {k0 : Nat} {H0 : AHeap} {B oa ol R C : Nat} {s : Slc} {sp : Option Nat} {g : Nat → Nat}
structure SQ (H0 : AHeap) (B oa ol R C : Nat) (s : Slc) (sp : Option Nat) (g : Nat → Nat) (h : AHeap) : Prop where
  a : Mx h B (R * C) g
  ca : h.get oa = some (.cells (mcell R C s) 97 true 0)
  cl : h.get ol = some (.cells (mcell R C (whole B (R * C) sp)) 97 true 0)
  la : oa < h.next
  ll : ol < h.next
  ch : Chg (fun x => x = B) H0 h
theorem SQ.keeps {h h' : AHeap} (S : SQ H0 B oa ol R C s sp g h) (k : Keeps h h') : SQ H0 B oa ol R C s sp g h' :=
  ⟨S.a.keeps k, by rw [k.oth _ S.la (fun f => f)]; exact S.ca, by rw [k.oth _ S.ll (fun f => f)]; exact S.cl, Nat.lt_of_lt_of_le S.la k.nx, Nat.lt_of_lt_of_le S.ll k.nx, S.ch.trans (Chg.keeps k)⟩
theorem SQ.op {h h' : AHeap} {g' : Nat → Nat} (S : SQ H0 B oa ol R C s sp g h) (n1 : oa ≠ B) (n2 : ol ≠ B) (m : Mx h' B (R * C) g') (k : Chg (· = B) h h') : SQ H0 B oa ol R C s sp g' h' :=
  ⟨m, by rw [k.oth _ S.la n1]; exact S.ca, by rw [k.oth _ S.ll n2]; exact S.cl, Nat.lt_of_lt_of_le S.la k.nx, Nat.lt_of_lt_of_le S.ll k.nx, S.ch.trans k⟩
theorem SQ.congr {h : AHeap} {g' : Nat → Nat} (S : SQ H0 B oa ol R C s sp g h) (e : ∀ t, t < R * C → g t = g' t) : SQ H0 B oa ol R C s sp g' h := ⟨S.a.congr e, S.ca, S.cl, S.la, S.ll, S.ch⟩
end
end Gz
namespace Gz
open Go Gx Go.Proofs
structure LI (n m sb fb : Nat) (r1 c1 r2 c2 : Int) (s1 s2 rs sa sq so : Slc) (xs ys rows : List Int) (g : AHeap) : Prop where
  rp : Row encI g s1 xs
  rq : Row encI g s2 ys
  rr : Row encI g rs rows
  ia : InM g sa xs
  iq : InM g sq ys
  io : Row encI g so rows
  d1 : g.get n = some (.cells (mcell r1 c1 s1) 97 true 0)
  d2 : g.get (n + 1) = some (.cells (mcell r2 c2 s2) 97 true 0)
  d3 : g.get m = some (.cells (mcell r1 c1 sa) 84 true 0)
  d4 : g.get (m + 1) = some (.cells (mcell r2 c2 sq) 84 true 0)
  ln : n + 1 < g.next
  lm : m + 1 < g.next
structure LN (n m fb : Nat) (s1 s2 rs sa sq so : Slc) : Prop where
  n0 : n ≠ fb
  n1 : n + 1 ≠ fb
  m0 : m ≠ fb
  m1 : m + 1 ≠ fb
  a1 : ∀ a, s1.a = some a → ¬ a.block = fb
  a2 : ∀ a, s2.a = some a → ¬ a.block = fb
  a3 : ∀ a, rs.a = some a → ¬ a.block = fb
  a4 : ∀ a, sa.a = some a → ¬ a.block = fb
  a5 : ∀ a, sq.a = some a → ¬ a.block = fb
  a6 : ∀ a, so.a = some a → ¬ a.block = fb
theorem LI.chg {n m sb fb : Nat} {r1 c1 r2 c2 : Int} {s1 s2 rs sa sq so : Slc} {xs ys rows : List Int} {g g' : AHeap} (N : LN n m fb s1 s2 rs sa sq so) (L : LI n m sb fb r1 c1 r2 c2 s1 s2 rs sa sq so xs ys rows g) (c : Chg (· = fb) g g') :
    LI n m sb fb r1 c1 r2 c2 s1 s2 rs sa sq so xs ys rows g' := by
  have ln := L.ln
  have lm := L.lm
  have nx := c.nx
  exact ⟨L.rp.chg c N.a1, L.rq.chg c N.a2, L.rr.chg c N.a3, L.ia.chg c N.a4, L.iq.chg c N.a5, L.io.chg c N.a6, by rw [c.oth _ (by omega) N.n0]; exact L.d1, by rw [c.oth _ (by omega) N.n1]; exact L.d2,
    by rw [c.oth _ (by omega) N.m0]; exact L.d3, by rw [c.oth _ (by omega) N.m1]; exact L.d4, by omega, by omega⟩
end Gz
namespace Gz
open Go Gx Go.Proofs
structure Fe where
  v : Nat
  lt : v < 256
namespace Fe
theorem ext {a b : Fe} (h : a.v = b.v) : a = b := by cases a; cases b; cases h; rfl
def add (a b : Fe) : Fe := ⟨a.v ^^^ b.v, xor_lt a.lt b.lt⟩
def mul (a b : Fe) : Fe := ⟨mulT a.v b.v, mulT_lt _ _⟩
def inv (a : Fe) : Fe := ⟨divT 1 a.v, divT_lt⟩
instance : Add Fe := ⟨add⟩
instance : Mul Fe := ⟨mul⟩
instance : OfNat Fe 0 := ⟨⟨0, by omega⟩⟩
instance : OfNat Fe 1 := ⟨⟨1, by omega⟩⟩
theorem add_v (a b : Fe) : (a + b).v = a.v ^^^ b.v := rfl
theorem mul_v (a b : Fe) : (a * b).v = mulT a.v b.v := rfl
theorem add_comm (a b : Fe) : a + b = b + a := ext (Nat.xor_comm _ _)
theorem add_assoc (a b c : Fe) : a + b + c = a + (b + c) := ext (Nat.xor_assoc _ _ _)
theorem add_self (a : Fe) : a + a = 0 := ext (Nat.xor_self _)
theorem add_zero (a : Fe) : a + 0 = a := ext (Nat.xor_zero _)
theorem zero_add (a : Fe) : 0 + a = a := ext (Nat.zero_xor _)
theorem mul_comm (a b : Fe) : a * b = b * a := ext (mulT_comm _ _)
theorem mul_assoc (a b c : Fe) : a * b * c = a * (b * c) := ext mulT_assoc
theorem mul_add (a b c : Fe) : a * (b + c) = a * b + a * c := ext (mulT_xor b.lt c.lt)
theorem add_mul (a b c : Fe) : (a + b) * c = a * c + b * c := by rw [mul_comm, mul_add, mul_comm c, mul_comm c]
theorem zero_mul (a : Fe) : 0 * a = 0 := ext (mulT_zero a.v)
theorem mul_zero (a : Fe) : a * 0 = 0 := by rw [mul_comm, zero_mul]
theorem mul_one (a : Fe) : a * 1 = a := ext (mulT_one a.lt)
theorem one_mul (a : Fe) : 1 * a = a := by rw [mul_comm, mul_one]
theorem ne_v {a : Fe} (h : a ≠ 0) : a.v ≠ 0 := fun e => h (ext e)
theorem inv_mul {a : Fe} (h : a ≠ 0) : inv a * a = 1 := ext (mul_div (x := 1) (by omega) a.lt (ne_v h))
theorem mul_inv {a : Fe} (h : a ≠ 0) : a * inv a = 1 := by rw [mul_comm, inv_mul h]
theorem mul_ne {a b : Fe} (ha : a ≠ 0) (hb : b ≠ 0) : a * b ≠ 0 := fun e => mulT_ne (ne_v ha) (ne_v hb) (congrArg Fe.v e)
theorem one_ne : (1 : Fe) ≠ 0 := fun e => absurd (congrArg Fe.v e) (by decide)
theorem add_eq_zero {a b : Fe} (h : a + b = 0) : a = b := by
  have : a + b + b = 0 + b := by rw [h]
  rw [add_assoc, add_self, add_zero, zero_add] at this
  exact this
theorem mul_cancel {a b : Fe} (ha : a ≠ 0) (h : a * b = 0) : b = 0 := by
  by_cases hb : b = 0
  · exact hb
  · exact absurd h (mul_ne ha hb)
instance : Std.Associative (α := Fe) (· + ·) := ⟨add_assoc⟩
instance : Std.Commutative (α := Fe) (· + ·) := ⟨add_comm⟩
instance : Std.Associative (α := Fe) (· * ·) := ⟨mul_assoc⟩
instance : Std.Commutative (α := Fe) (· * ·) := ⟨mul_comm⟩
def of (n : Nat) : Fe := ⟨n % 256, Nat.mod_lt _ (by omega)⟩
theorem of_v {n : Nat} (h : n < 256) : (of n).v = n := Nat.mod_eq_of_lt h
theorem of_self (a : Fe) : of a.v = a := ext (of_v a.lt)
theorem of_xor {a b : Nat} (ha : a < 256) (hb : b < 256) : of (a ^^^ b) = of a + of b := ext (by rw [add_v, of_v ha, of_v hb, of_v (xor_lt ha hb)])
theorem of_mul {a b : Nat} (ha : a < 256) (hb : b < 256) : of (mulT a b) = of a * of b := ext (by rw [mul_v, of_v ha, of_v hb, of_v (mulT_lt _ _)])
theorem of_zero : of 0 = 0 := rfl
theorem of_one : of 1 = 1 := rfl
theorem of_inj {a b : Nat} (ha : a < 256) (hb : b < 256) (h : of a = of b) : a = b := by
  have := congrArg Fe.v h
  rwa [of_v ha, of_v hb] at this
end Fe
open Fe
def sm : Nat → (Nat → Fe) → Fe
  | 0, _ => 0
  | n + 1, f => sm n f + f n
theorem sm_s (n : Nat) (f : Nat → Fe) : sm (n + 1) f = sm n f + f n := rfl
theorem sm_congr : ∀ {n : Nat} {f g : Nat → Fe}, (∀ i, i < n → f i = g i) → sm n f = sm n g
  | 0, _, _, _ => rfl
  | n + 1, f, g, h => by
    unfold sm
    rw [sm_congr fun i hi => h i (by omega), h n (by omega)]
theorem sm_zero : ∀ {n : Nat} {f : Nat → Fe}, (∀ i, i < n → f i = 0) → sm n f = 0
  | 0, _, _ => rfl
  | n + 1, f, h => by
    unfold sm
    rw [sm_zero fun i hi => h i (by omega), h n (by omega), add_zero]
theorem sm_add : ∀ (n : Nat) (f g : Nat → Fe), sm n (fun i => f i + g i) = sm n f + sm n g
  | 0, _, _ => (add_zero 0).symm
  | n + 1, f, g => by
    rw [sm_s, sm_s, sm_s, sm_add n f g]
    show sm n f + sm n g + (f n + g n) = sm n f + f n + (sm n g + g n)
    ac_rfl
theorem sm_mul : ∀ (n : Nat) (c : Fe) (f : Nat → Fe), sm n (fun i => c * f i) = c * sm n f
  | 0, c, _ => (mul_zero c).symm
  | n + 1, c, f => by
    unfold sm
    rw [sm_mul n c f, mul_add]
theorem sm_mul' (n : Nat) (c : Fe) (f : Nat → Fe) : sm n (fun i => f i * c) = sm n f * c := by
  rw [mul_comm _ c, ← sm_mul]
  exact sm_congr fun i _ => mul_comm _ _
theorem sm_swap : ∀ (n m : Nat) (f : Nat → Nat → Fe), sm n (fun i => sm m fun j => f i j) = sm m (fun j => sm n fun i => f i j)
  | 0, m, f => (sm_zero fun _ _ => rfl).symm
  | n + 1, m, f => by
    show sm n (fun i => sm m fun j => f i j) + sm m (fun j => f n j) = sm m (fun j => sm n (fun i => f i j) + f n j)
    rw [sm_swap n m f, sm_add]
def dl (i j : Nat) : Fe := if i = j then 1 else 0
theorem sm_dl : ∀ {n i : Nat} (f : Nat → Fe), i < n → sm n (fun k => dl i k * f k) = f i
  | n + 1, i, f, h => by
    rw [sm_s]
    by_cases e : i = n
    · subst e
      rw [sm_zero fun k hk => by unfold dl; rw [if_neg (by omega), zero_mul], zero_add]
      show dl i i * f i = f i
      unfold dl; rw [if_pos rfl, one_mul]
    · rw [sm_dl f (by omega)]
      show f i + dl i n * f n = f i
      unfold dl; rw [if_neg e, zero_mul, add_zero]
theorem sm_dl' {n i : Nat} (f : Nat → Fe) (h : i < n) : sm n (fun k => f k * dl k i) = f i := by
  rw [← sm_dl f h]
  exact sm_congr fun k _ => by
    rw [mul_comm]
    unfold dl
    by_cases e : k = i
    · rw [if_pos e, if_pos e.symm]
    · rw [if_neg e, if_neg fun h => e h.symm]
abbrev Mt := Nat → Nat → Fe
def mm (n : Nat) (A B : Mt) : Mt := fun i j => sm n fun k => A i k * B k j
def Eqm (r c : Nat) (A B : Mt) : Prop := ∀ i j, i < r → j < c → A i j = B i j
theorem Eqm.refl (r c : Nat) (A : Mt) : Eqm r c A A := fun _ _ _ _ => rfl
theorem Eqm.symm {r c : Nat} {A B : Mt} (h : Eqm r c A B) : Eqm r c B A := fun i j hi hj => (h i j hi hj).symm
theorem Eqm.trans {r c : Nat} {A B D : Mt} (h : Eqm r c A B) (k : Eqm r c B D) : Eqm r c A D := fun i j hi hj => (h i j hi hj).trans (k i j hi hj)
theorem mm_assoc (n m : Nat) (A B D : Mt) : mm m (mm n A B) D = mm n A (mm m B D) := by
  funext i j
  show sm m (fun k => sm n (fun l => A i l * B l k) * D k j) = sm n fun l => A i l * sm m fun k => B l k * D k j
  rw [sm_congr (g := fun k => sm n fun l => A i l * (B l k * D k j)) fun k _ => by rw [← sm_mul']; exact sm_congr fun l _ => mul_assoc _ _ _, sm_swap]
  exact sm_congr fun l _ => sm_mul _ _ _
theorem mm_congr {r n c : Nat} {A A' B B' : Mt} (h : Eqm r n A A') (k : Eqm n c B B') : Eqm r c (mm n A B) (mm n A' B') := fun i j hi hj => sm_congr fun l hl => by rw [h i l hi hl, k l j hl hj]
theorem mm_dl {r n c : Nat} (h : r ≤ n) (A : Mt) : Eqm r c (mm n dl A) A := fun i j hi _ => sm_dl (fun k => A k j) (by omega)
theorem dl_mm {r n c : Nat} (h : c ≤ n) (A : Mt) : Eqm r c (mm n A dl) A := fun i j _ hj => sm_dl' (fun k => A i k) (by omega)
def tr (A : Mt) : Mt := fun i j => A j i
theorem tr_mm (n : Nat) (A B : Mt) : tr (mm n A B) = mm n (tr B) (tr A) := by
  funext i j
  exact sm_congr fun k _ => mul_comm _ _
theorem dl_comm (i j : Nat) : dl i j = dl j i := by
  unfold dl
  by_cases e : i = j
  · rw [if_pos e, if_pos e.symm]
  · rw [if_neg e, if_neg fun h => e h.symm]
structure Inv (n : Nat) (T T' : Mt) : Prop where
  l : Eqm n n (mm n T T') dl
  r : Eqm n n (mm n T' T) dl
theorem Inv.mul {n : Nat} {S S' T T' : Mt} (a : Inv n S S') (b : Inv n T T') : Inv n (mm n S T) (mm n T' S') := by
  constructor
  · have : mm n (mm n S T) (mm n T' S') = mm n S (mm n (mm n T T') S') := by rw [mm_assoc, mm_assoc]
    rw [this]
    exact (mm_congr (Eqm.refl n n S) ((mm_congr b.l (Eqm.refl n n S')).trans (mm_dl (Nat.le_refl n) S'))).trans a.l
  · have : mm n (mm n T' S') (mm n S T) = mm n T' (mm n (mm n S' S) T) := by rw [mm_assoc, mm_assoc]
    rw [this]
    exact (mm_congr (Eqm.refl n n T') ((mm_congr a.r (Eqm.refl n n T)).trans (mm_dl (Nat.le_refl n) T))).trans b.r
theorem Inv.one (n : Nat) : Inv n dl dl := ⟨mm_dl (Nat.le_refl n) dl, mm_dl (Nat.le_refl n) dl⟩
def swT (l r : Nat) : Mt := fun i k => dl (if i = l then r else if i = r then l else i) k
theorem sw_mm {n l r : Nat} (hl : l < n) (hr : r < n) (A : Mt) (i j : Nat) (hi : i < n) : mm n (swT l r) A i j = A (if i = l then r else if i = r then l else i) j := by
  refine sm_dl (fun k => A k j) ?_
  split
  · exact hr
  · split
    · exact hl
    · exact hi
theorem sw_inv {n l r : Nat} (hl : l < n) (hr : r < n) : Inv n (swT l r) (swT l r) := by
  have : Eqm n n (mm n (swT l r) (swT l r)) dl := fun i j hi _ => by
    rw [sw_mm hl hr _ i j hi]
    unfold swT
    by_cases e : i = l
    · subst e
      rw [if_pos rfl]
      by_cases e2 : r = i
      · subst e2; rw [if_pos rfl]
      · rw [if_neg e2, if_pos rfl]
    · rw [if_neg e]
      by_cases e2 : i = r
      · subst e2; rw [if_pos rfl, if_pos rfl]
      · rw [if_neg e2, if_neg e, if_neg e2]
  exact ⟨this, this⟩
def scT (r : Nat) (c : Fe) : Mt := fun i k => (if i = r then c else 1) * dl i k
theorem sc_mm {n r : Nat} {c : Fe} (A : Mt) (i j : Nat) (hi : i < n) : mm n (scT r c) A i j = (if i = r then c else 1) * A i j := by
  unfold mm scT
  rw [sm_congr (g := fun k => (if i = r then c else 1) * (dl i k * A k j)) fun k _ => mul_assoc _ _ _, sm_mul, sm_dl (fun k => A k j) hi]
theorem sc_inv {n r : Nat} {c c' : Fe} (h : c * c' = 1) : Inv n (scT r c) (scT r c') := by
  have go : ∀ {c c' : Fe}, c * c' = 1 → Eqm n n (mm n (scT r c) (scT r c')) dl := fun {c c'} h i j hi _ => by
    rw [sc_mm _ i j hi]
    unfold scT
    rw [← mul_assoc]
    by_cases e : i = r
    · rw [if_pos e, if_pos e, h, one_mul]
    · rw [if_neg e, if_neg e, one_mul, one_mul]
  exact ⟨go h, go (by rw [mul_comm]; exact h)⟩
def elT (r : Nat) (m : Nat → Fe) : Mt := fun i k => dl i k + (if i = r then 0 else m i) * dl r k
theorem el_mm {n r : Nat} (hr : r < n) {m : Nat → Fe} (A : Mt) (i j : Nat) (hi : i < n) : mm n (elT r m) A i j = A i j + (if i = r then 0 else m i) * A r j := by
  unfold mm elT
  rw [sm_congr (g := fun k => dl i k * A k j + (if i = r then 0 else m i) * (dl r k * A k j)) fun k _ => by rw [add_mul, mul_assoc], sm_add, sm_mul, sm_dl (fun k => A k j) hi, sm_dl (fun k => A k j) hr]
theorem el_inv {n r : Nat} (hr : r < n) (m : Nat → Fe) : Inv n (elT r m) (elT r m) := by
  have : Eqm n n (mm n (elT r m) (elT r m)) dl := fun i j hi _ => by
    rw [el_mm hr _ i j hi]
    unfold elT
    by_cases e : i = r
    · subst e; simp only [if_true, zero_mul, add_zero]
    · simp only [if_neg e, if_true, zero_mul, add_zero]
      rw [add_assoc, add_self, add_zero]
  exact ⟨this, this⟩
end Gz
namespace Gz
open Go Gx Go.Proofs Fe
def El (N : Nat) (g : Nat → Nat) : Prop := ∀ t, t < N → g t < 256
def Vw (C : Nat) (g : Nat → Nat) : Mt := fun i j => of (g (i * C + j))
def sg (l r i : Nat) : Nat := if i = l then r else if i = r then l else i
theorem pos_lt {R C i j : Nat} (hi : i < R) (hj : j < C) : i * C + j < R * C := by have := le_row (c := C) hi; omega
theorem sg_lt {R l r i : Nat} (hl : l < R) (hr : r < R) (hi : i < R) : sg l r i < R := by
  unfold sg
  split
  · exact hr
  · split
    · exact hl
    · exact hi
section
variable {R C C2 l r jj : Nat} {g u : Nat → Nat}
theorem Vw_swap {i j : Nat} (hj : j < C) : Vw C (swapR C l r g) i j = Vw C g (sg l r i) j := by
  unfold Vw swapR sg
  rw [pos_div hj, pos_mod hj]
  by_cases e : i = l
  · rw [if_pos e, if_pos e]
  · rw [if_neg e, if_neg e]
    by_cases e2 : i = r
    · rw [if_pos e2, if_pos e2]
    · rw [if_neg e2, if_neg e2]
theorem swap_El (hl : l < R) (hr : r < R) (hC : 0 < C) (h : El (R * C) g) : El (R * C) (swapR C l r g) := fun t ht => by
  have hm := Nat.mod_lt t hC
  unfold swapR
  split
  · exact h _ (pos_lt hr hm)
  · split
    · exact h _ (pos_lt hl hm)
    · exact h t ht
theorem Vw_div {b i j : Nat} (hb : b < 256) (b0 : b ≠ 0) (h : El (R * C) g) (hi : i < R) (hj : j < C) : Vw C (divR C r b g) i j = (if i = r then Fe.inv (of b) else 1) * Vw C g i j := by
  have hx := h _ (pos_lt hi hj)
  unfold Vw divR
  rw [pos_div hj]
  by_cases e : i = r
  · rw [if_pos e, if_pos e, ← div_scl hx hb b0, of_mul hx divT_lt, mul_comm]
    congr 1
    exact Fe.ext (by rw [of_v divT_lt]; show divT 1 b = divT 1 (of b).v; rw [of_v hb])
  · rw [if_neg e, if_neg e, one_mul]
theorem Vw_elim {i j : Nat} (h : El (R * C) g) (hr : r < R) (hjj : jj < C) (hi : i < R) (hj : j < C) : Vw C (elimG C r jj g) i j = Vw C g i j + (if i = r then 0 else Vw C g i jj) * Vw C g r j := by
  unfold Vw elimG
  rw [pos_div hj, pos_mod hj]
  by_cases e : i = r
  · rw [if_pos e, if_pos e, zero_mul, add_zero]
  · rw [if_neg e, if_neg e, of_xor (h _ (pos_lt hi hj)) (mulT_lt _ _), of_mul (h _ (pos_lt hr hj)) (h _ (pos_lt hi hjj)), mul_comm (of (g (r * C + j)))]
theorem Vw_elimU {i j : Nat} (h : El (R * C) g) (hu : El (R * C2) u) (hr : r < R) (hjj : jj < C) (hi : i < R) (hj : j < C2) : Vw C2 (elimU C C2 r jj g u) i j = Vw C2 u i j + (if i = r then 0 else Vw C g i jj) * Vw C2 u r j := by
  unfold Vw elimU
  rw [pos_div hj, pos_mod hj]
  by_cases e : i = r
  · rw [if_pos e, if_pos e, zero_mul, add_zero]
  · rw [if_neg e, if_neg e, of_xor (hu _ (pos_lt hi hj)) (mulT_lt _ _), of_mul (hu _ (pos_lt hr hj)) (h _ (pos_lt hi hjj)), mul_comm (of (u (r * C2 + j)))]
theorem elim_El (h : El (R * C) g) : El (R * C) (elimG C r jj g) := fun t ht => by
  unfold elimG
  split
  · exact h t ht
  · exact xor_lt (h t ht) (mulT_lt _ _)
theorem elimU_El (h : El (R * C2) u) : El (R * C2) (elimU C C2 r jj g u) := fun t ht => by
  unfold elimU
  split
  · exact h t ht
  · exact xor_lt (h t ht) (mulT_lt _ _)
def stM (l r jj : Nat) (A : Mt) (B : Mt) : Mt :=
  let h : Mt := fun i j => (if i = r then Fe.inv (A (sg l r r) jj) else 1) * B (sg l r i) j
  fun i j => h i j + (if i = r then 0 else (if i = r then Fe.inv (A (sg l r r) jj) else 1) * A (sg l r i) jj) * h r j
theorem Vw_stepG (h : El (R * C) g) (hl : l < R) (hr : r < R) (hjj : jj < C) (hp : g (l * C + jj) ≠ 0) : Eqm R C (Vw C (stepG C jj l r g)) (stM l r jj (Vw C g) (Vw C g)) ∧ El (R * C) (stepG C jj l r g) := by
  have hC : 0 < C := by omega
  have e1 := swap_El hl hr hC h
  obtain ⟨b, hb⟩ : ∃ b, b = swapR C l r g (r * C + jj) := ⟨_, rfl⟩
  have hb1 : b < 256 := by rw [hb]; exact e1 _ (pos_lt hr hjj)
  have ob : of b = Vw C g (sg l r r) jj := by rw [← Vw_swap hjj, hb]; rfl
  have hb0 : b ≠ 0 := fun e => hp (by
    have : Vw C g (sg l r r) jj = Vw C g l jj := by
      unfold sg
      by_cases e : r = l
      · rw [if_pos e, e]
      · rw [if_neg e, if_pos rfl]
    rw [this, e] at ob
    exact of_inj (h _ (pos_lt hl hjj)) (by omega) ob.symm)
  have e2 : El (R * C) (divR C r b (swapR C l r g)) := divR_el e1
  have es : stepG C jj l r g = elimG C r jj (divR C r b (swapR C l r g)) := by rw [hb]; rfl
  refine ⟨fun i j hi hj => ?_, by rw [es]; exact elim_El e2⟩
  rw [es, Vw_elim e2 hr hjj hi hj, Vw_div hb1 hb0 e1 hi hj, Vw_div hb1 hb0 e1 hi hjj, Vw_div hb1 hb0 e1 hr hj, Vw_swap hj, Vw_swap hj, Vw_swap hjj, ob]
  rfl
theorem Vw_stepU (h : El (R * C) g) (hu : El (R * C2) u) (hl : l < R) (hr : r < R) (hjj : jj < C) (hC2 : 0 < C2) (hp : g (l * C + jj) ≠ 0) : Eqm R C2 (Vw C2 (stepU C C2 jj l r g u)) (stM l r jj (Vw C g) (Vw C2 u)) ∧ El (R * C2) (stepU C C2 jj l r g u) := by
  have hC : 0 < C := by omega
  have e1 := swap_El hl hr hC h
  have u1 := swap_El hl hr hC2 hu
  obtain ⟨b, hb⟩ : ∃ b, b = swapR C l r g (r * C + jj) := ⟨_, rfl⟩
  have hb1 : b < 256 := by rw [hb]; exact e1 _ (pos_lt hr hjj)
  have ob : of b = Vw C g (sg l r r) jj := by rw [← Vw_swap hjj, hb]; rfl
  have hb0 : b ≠ 0 := fun e => hp (by
    have : Vw C g (sg l r r) jj = Vw C g l jj := by
      unfold sg
      by_cases e : r = l
      · rw [if_pos e, e]
      · rw [if_neg e, if_pos rfl]
    rw [this, e] at ob
    exact of_inj (h _ (pos_lt hl hjj)) (by omega) ob.symm)
  have e2 : El (R * C) (divR C r b (swapR C l r g)) := divR_el e1
  have u2 : El (R * C2) (divR C2 r b (swapR C2 l r u)) := divR_el u1
  have es : stepU C C2 jj l r g u = elimU C C2 r jj (divR C r b (swapR C l r g)) (divR C2 r b (swapR C2 l r u)) := by rw [hb]; rfl
  refine ⟨fun i j hi hj => ?_, by rw [es]; exact elimU_El u2⟩
  rw [es, Vw_elimU e2 u2 hr hjj hi hj, Vw_div hb1 hb0 u1 hi hj, Vw_div hb1 hb0 e1 hi hjj, Vw_div hb1 hb0 u1 hr hj, Vw_swap hj, Vw_swap hj, Vw_swap hjj, ob]
  rfl
theorem st_inv {A : Mt} (hl : l < R) (hr : r < R) (hp : A (sg l r r) jj ≠ 0) : ∃ T T', Inv R T T' ∧ ∀ (c : Nat) (B : Mt), Eqm R c (stM l r jj A B) (mm R T B) := by
  obtain ⟨k, hk⟩ : ∃ k, k = Fe.inv (A (sg l r r) jj) := ⟨_, rfl⟩
  have hkk : k * A (sg l r r) jj = 1 := by rw [hk]; exact inv_mul hp
  obtain ⟨m, hm⟩ : ∃ m : Nat → Fe, m = fun i => (if i = r then k else 1) * A (sg l r i) jj := ⟨_, rfl⟩
  refine ⟨mm R (elT r m) (mm R (scT r k) (swT l r)), _, (el_inv hr m).mul ((sc_inv hkk).mul (sw_inv hl hr)), fun c B i j hi _ => ?_⟩
  rw [mm_assoc, el_mm hr _ i j hi, mm_assoc, sc_mm _ i j hi, sc_mm _ r j hr, sw_mm hl hr B i j hi, sw_mm hl hr B r j hr, hm, hk]
  rfl
end
structure Ech (R : Nat) (G : Mt) (r j : Nat) (p : Nat → Nat) : Prop where
  rj : r ≤ j
  rR : r ≤ R
  pv : ∀ k, k < r → p k < j ∧ ∀ i, i < R → G i (p k) = dl i k
  zr : ∀ i, r ≤ i → i < R → ∀ c, c < j → G i c = 0
  sq : r = j → ∀ k, k < r → p k = k
theorem Ech.congr {R C r j : Nat} {G G' : Mt} {p : Nat → Nat} (h : Ech R G r j p) (hj : j ≤ C) (e : Eqm R C G' G) : Ech R G' r j p :=
  ⟨h.rj, h.rR, fun k hk => ⟨(h.pv k hk).1, fun i hi => by rw [e i _ hi (by have := (h.pv k hk).1; omega)]; exact (h.pv k hk).2 i hi⟩, fun i h1 h2 c hc => by rw [e i c h2 (by omega)]; exact h.zr i h1 h2 c hc, h.sq⟩
theorem dl_ne {i k : Nat} (h : i ≠ k) : dl i k = 0 := by unfold dl; rw [if_neg h]
theorem dl_eq (i : Nat) : dl i i = 1 := by unfold dl; rw [if_pos rfl]
theorem Ech.step {R r j l : Nat} {G : Mt} {p : Nat → Nat} (h : Ech R G r j p) (h1 : r ≤ l) (h2 : l < R) (hp : G (sg l r r) j ≠ 0) : Ech R (stM l r j G G) (r + 1) (j + 1) (fun k => if k = r then j else p k) := by
  have hr : r < R := by omega
  have sr : sg l r r = l := by
    unfold sg
    by_cases e : r = l
    · rw [if_pos e]; exact e
    · rw [if_neg e, if_pos rfl]
  have sge : ∀ i, r ≤ i → r ≤ sg l r i := fun i hi => by
    unfold sg
    split
    · omega
    · split <;> omega
  have slt : ∀ i, i < R → sg l r i < R := fun i hi => sg_lt h2 hr hi
  have kk : Fe.inv (G (sg l r r) j) * G (sg l r r) j = 1 := inv_mul hp
  have col : ∀ c, (∀ x, r ≤ x → x < R → G x c = 0) → ∀ i, i < R → stM l r j G G i c = if i = r then 0 else G (sg l r i) c := fun c hc i hi => by
    unfold stM
    dsimp only
    rw [hc (sg l r r) (by rw [sr]; exact h1) (by rw [sr]; exact h2), mul_zero, mul_zero, add_zero]
    by_cases e : i = r
    · rw [if_pos e, if_pos e, e, hc (sg l r r) (by rw [sr]; exact h1) (by rw [sr]; exact h2), mul_zero]
    · rw [if_neg e, if_neg e, one_mul]
  have colj : ∀ i, i < R → stM l r j G G i j = dl i r := fun i hi => by
    unfold stM
    dsimp only
    rw [if_pos rfl, kk, mul_one]
    by_cases e : i = r
    · rw [if_pos e, if_pos e, e, kk, add_zero, dl_eq]
    · rw [if_neg e, if_neg e, add_self, dl_ne e]
  refine ⟨by have := h.rj; omega, by omega, fun k hk => ?_, fun i h3 h4 c hc => ?_, fun e k hk => ?_⟩
  · by_cases e : k = r
    · rw [if_pos e]
      exact ⟨by omega, fun i hi => by rw [colj i hi, e]⟩
    · rw [if_neg e]
      obtain ⟨q1, q2⟩ := h.pv k (by omega)
      refine ⟨by omega, fun i hi => ?_⟩
      rw [col (p k) (fun x hx hx' => by rw [q2 x hx', dl_ne (by omega)]) i hi]
      by_cases e2 : i = r
      · rw [if_pos e2, dl_ne (by omega)]
      · rw [if_neg e2, q2 _ (slt i hi)]
        unfold sg
        by_cases e3 : i = l
        · rw [if_pos e3, dl_ne (by omega), dl_ne (by omega)]
        · rw [if_neg e3, if_neg e2]
  · by_cases e : c = j
    · rw [e, colj i h4, dl_ne (by omega)]
    · rw [col c (fun x hx hx' => h.zr x hx hx' c (by omega)) i h4, if_neg (by omega)]
      exact h.zr _ (sge i (by omega)) (slt i h4) c (by omega)
  · by_cases e2 : k = r
    · rw [if_pos e2]; omega
    · rw [if_neg e2]; exact h.sq (by omega) k (by omega)
theorem Ech.none {R r j : Nat} {G : Mt} {p : Nat → Nat} (h : Ech R G r j p) (hz : ∀ i, r ≤ i → i < R → G i j = 0) : Ech R G r (j + 1) p :=
  ⟨by have := h.rj; omega, h.rR, fun k hk => ⟨by have := (h.pv k hk).1; omega, (h.pv k hk).2⟩, fun i h1 h2 c hc => by
    by_cases e : c = j
    · rw [e]; exact hz i h1 h2
    · exact h.zr i h1 h2 c (by omega), fun e => by have := h.rj; omega⟩
theorem leadN_none (C j : Nat) (g : Nat → Nat) : ∀ m i, leadN C j g m i = i + m → ∀ x, i ≤ x → x < i + m → g (x * C + j) = 0
  | 0, i, _, x, h1, h2 => by omega
  | m + 1, i, h, x, h1, h2 => by
    unfold leadN at h
    split at h
    · rename_i e
      by_cases ex : x = i
      · rw [ex]; exact e
      · exact leadN_none C j g m (i + 1) (by omega) x (by omega) (by omega)
    · omega
theorem gaussN {R C C2 : Nat} (hC2 : 0 < C2) : ∀ (m j r : Nat) (g u : Nat → Nat) (p : Nat → Nat), j + m = C → El (R * C) g → El (R * C2) u → Ech R (Vw C g) r j p →
    ∃ T T' p' j', Inv R T T' ∧ Eqm R C (Vw C (stepsN R C C2 m j r g u).2.1) (mm R T (Vw C g)) ∧ Eqm R C2 (Vw C2 (stepsN R C C2 m j r g u).2.2) (mm R T (Vw C2 u)) ∧ El (R * C) (stepsN R C C2 m j r g u).2.1 ∧ El (R * C2) (stepsN R C C2 m j r g u).2.2 ∧
      Ech R (Vw C (stepsN R C C2 m j r g u).2.1) (stepsN R C C2 m j r g u).1 j' p' ∧ j' ≤ C ∧ (j' = C ∨ (stepsN R C C2 m j r g u).1 = R)
  | 0, j, r, g, u, p, hj, hg, hu, E => ⟨dl, dl, p, j, Inv.one R, (mm_dl (Nat.le_refl R) _).symm, (mm_dl (Nat.le_refl R) _).symm, hg, hu, E, by omega, .inl (by omega)⟩
  | m + 1, j, r, g, u, p, hj, hg, hu, E => by
    have hjC : j < C := by omega
    by_cases c1 : r < R
    · obtain ⟨l, hl⟩ : ∃ l, l = leadN C j g (R - r) r := ⟨_, rfl⟩
      have hle := leadN_le C j g (R - r) r
      rw [← hl] at hle
      by_cases c2 : l = R
      · have es : stepsN R C C2 (m + 1) j r g u = stepsN R C C2 m (j + 1) r g u := by
          simp only [stepsN]; rw [if_pos c1, ← hl, if_pos c2]
        rw [es]
        exact gaussN hC2 m (j + 1) r g u p (by omega) hg hu (E.none fun i h1 h2 => by
          unfold Vw
          rw [leadN_none C j g (R - r) r (by omega) i h1 (by omega), of_zero])
      · have es : stepsN R C C2 (m + 1) j r g u = stepsN R C C2 m (j + 1) (r + 1) (stepG C j l r g) (stepU C C2 j l r g u) := by
          simp only [stepsN]; rw [if_pos c1, ← hl, if_neg c2]
        have hlR : l < R := by omega
        have hp : g (l * C + j) ≠ 0 := by rw [hl]; exact leadN_ne C j g (R - r) r (by omega)
        have sr : sg l r r = l := by
          unfold sg
          by_cases e : r = l
          · rw [if_pos e]; exact e
          · rw [if_neg e, if_pos rfl]
        have hpV : Vw C g (sg l r r) j ≠ 0 := fun e => hp (by
          rw [sr] at e
          exact of_inj (hg _ (pos_lt hlR hjC)) (by omega) e)
        obtain ⟨gE, gL⟩ := Vw_stepG hg hlR c1 hjC hp
        obtain ⟨uE, uL⟩ := Vw_stepU hg hu hlR c1 hjC hC2 hp
        obtain ⟨T, T', TI, TE⟩ := st_inv (R := R) (jj := j) (A := Vw C g) hlR c1 hpV
        obtain ⟨S, S', p', j', SI, h1, h2, h3, h4, h5, h6, h7⟩ := gaussN hC2 m (j + 1) (r + 1) _ _ _ (by omega) gL uL ((E.step (by omega) hlR hpV).congr (by omega) gE)
        rw [es]
        refine ⟨mm R S T, _, p', j', SI.mul TI, ?_, ?_, h3, h4, h5, h6, h7⟩
        · rw [mm_assoc]
          exact h1.trans (mm_congr (Eqm.refl R R S) (gE.trans (TE C _)))
        · rw [mm_assoc]
          exact h2.trans (mm_congr (Eqm.refl R R S) (uE.trans (TE C2 _)))
    · have es : stepsN R C C2 (m + 1) j r g u = (r, g, u) := by simp only [stepsN]; rw [if_neg c1]
      rw [es]
      exact ⟨dl, dl, p, j, Inv.one R, (mm_dl (Nat.le_refl R) _).symm, (mm_dl (Nat.le_refl R) _).symm, hg, hu, E, by omega, .inr (by have := E.rR; show r = R; omega)⟩
theorem stepsN_fst {R C C2 C2' : Nat} : ∀ (m j r : Nat) (g u u' : Nat → Nat), (stepsN R C C2 m j r g u).1 = (stepsN R C C2' m j r g u').1
  | 0, _, _, _, _, _ => rfl
  | m + 1, j, r, g, u, u' => by
    simp only [stepsN]
    split
    · split
      · exact stepsN_fst m (j + 1) r g u u'
      · exact stepsN_fst m (j + 1) (r + 1) _ _ _
    · rfl
end Gz
namespace Gz
open Go Gx Go.Proofs Fe
def rk (R C : Nat) (g : Nat → Nat) : Nat := (stepsN R C 1 C 0 0 g fun _ => 0).1
theorem rk_any {R C : Nat} (C2 : Nat) (g u : Nat → Nat) : (stepsN R C C2 C 0 0 g u).1 = rk R C g := stepsN_fst _ _ _ _ _ _
theorem Vw_one {n i j : Nat} (hj : j < n) : Vw n (oneN n) i j = dl i j := by
  unfold Vw oneN dl
  rw [pos_div hj, pos_mod hj]
  split
  · exact of_one
  · exact of_zero
theorem oneN_El (n : Nat) : El (n * n) (oneN n) := fun t _ => by unfold oneN; split <;> omega
theorem rk_le {R C : Nat} {g : Nat → Nat} : rk R C g ≤ C := by
  have := stepsN_le R C 1 C 0 0 g fun _ => 0
  unfold rk; omega
structure Gs (R C : Nat) (g : Nat → Nat) (T T' G : Mt) (p : Nat → Nat) : Prop where
  inv : Inv R T T'
  eq : Eqm R C G (mm R T (Vw C g))
  rR : rk R C g ≤ R
  pv : ∀ k, k < rk R C g → p k < C ∧ ∀ i, i < R → G i (p k) = dl i k
  zr : ∀ i, rk R C g ≤ i → i < R → ∀ c, c < C → G i c = 0
  sq : R = C → rk R C g = R → Eqm R R G dl
theorem gauss {R C : Nat} {g : Nat → Nat} (hR : 0 < R) (hg : El (R * C) g) : ∃ T T' G p, Gs R C g T T' G p ∧ Eqm R R (Vw R (stepsN R C R C 0 0 g (oneN R)).2.2) T := by
  obtain ⟨T, T', p, j, I, h1, h2, _, _, E, hj, h3⟩ := gaussN (C := C) hR C 0 0 g (oneN R) (fun k => k) (by omega) hg (oneN_El R) ⟨by omega, by omega, fun k hk => by omega, fun i _ _ c hc => by omega, fun _ k hk => by omega⟩
  have er := rk_any (R := R) (C := C) R g (oneN R)
  rw [er] at E h3
  refine ⟨T, T', _, p, ⟨I, h1, E.rR, fun k hk => ⟨by have := (E.pv k hk).1; omega, (E.pv k hk).2⟩, fun i h4 h5 c hc => ?_, fun e1 e2 => ?_⟩, ?_⟩
  · rcases h3 with h3 | h3
    · exact E.zr i h4 h5 c (by omega)
    · omega
  · subst e1
    have e3 : j = R := by
      have := E.rj
      omega
    intro i k hi hk
    have := (E.pv k (by omega)).2 i hi
    rwa [E.sq (by omega) k (by omega)] at this
  · exact h2.trans ((mm_congr (Eqm.refl R R T) (fun i j _ hj => Vw_one hj)).trans (dl_mm (Nat.le_refl R) T))
theorem sm_trunc : ∀ {n r : Nat} {f : Nat → Fe}, r ≤ n → (∀ k, r ≤ k → k < n → f k = 0) → sm n f = sm r f
  | 0, r, f, h, _ => by obtain rfl : r = 0 := by omega
                        rfl
  | n + 1, r, f, h, hz => by
    by_cases e : r = n + 1
    · rw [e]
    · rw [sm_s, hz n (by omega) (by omega), add_zero]
      exact sm_trunc (by omega) fun k h1 h2 => hz k h1 (by omega)
def Fac (k R C : Nat) (A : Mt) : Prop := ∃ P Q, Eqm R C A (mm k P Q)
theorem Gs.back {R C : Nat} {g : Nat → Nat} {T T' G : Mt} {p : Nat → Nat} (S : Gs R C g T T' G p) : Eqm R C (Vw C g) (mm R T' G) := by
  have : Eqm R C (mm R T' G) (mm R (mm R T' T) (Vw C g)) := by
    rw [mm_assoc]
    exact mm_congr (Eqm.refl R R T') S.eq
  exact (this.trans ((mm_congr S.inv.r (Eqm.refl R C _)).trans (mm_dl (Nat.le_refl R) _))).symm
theorem rk_fac {R C : Nat} {g : Nat → Nat} (hR : 0 < R) (hg : El (R * C) g) : Fac (rk R C g) R C (Vw C g) := by
  obtain ⟨T, T', G, p, S, _⟩ := gauss hR hg
  refine ⟨T', G, S.back.trans fun i j hi hj => ?_⟩
  exact sm_trunc S.rR fun k h1 h2 => by rw [S.zr k h1 h2 j hj, mul_zero]
def fl (C : Nat) (A : Mt) : Nat → Nat := fun t => (A (t / C) (t % C)).v
theorem fl_El (C N : Nat) (A : Mt) : El N (fl C A) := fun _ _ => Fe.lt _
theorem Vw_fl {C i j : Nat} (A : Mt) (hj : j < C) : Vw C (fl C A) i j = A i j := by
  unfold Vw fl
  rw [pos_div hj, pos_mod hj, of_self]
theorem kernel {R C : Nat} {g : Nat → Nat} (hR : 0 < R) (hg : El (R * C) g) (h : rk R C g < R) : ∃ v : Nat → Fe, (∃ i, i < R ∧ v i ≠ 0) ∧ ∀ c, c < C → sm R (fun k => v k * Vw C g k c) = 0 := by
  obtain ⟨T, T', G, p, S, _⟩ := gauss hR hg
  refine ⟨T (R - 1), Classical.byContradiction fun hn => ?_, fun c hc => ?_⟩
  · have hz : ∀ i, i < R → T (R - 1) i = 0 := fun i hi => Classical.byContradiction fun e => hn ⟨i, hi, e⟩
    have := S.inv.l (R - 1) (R - 1) (by omega) (by omega)
    rw [dl_eq] at this
    exact one_ne (this.symm.trans (sm_zero fun k hk => by rw [hz k hk, zero_mul]))
  · exact (S.eq (R - 1) c (by omega) hc).symm.trans (S.zr (R - 1) (by omega) (by omega) c hc)
theorem no_wide {r k : Nat} {X Y : Mt} (h : Eqm r r dl (mm k X Y)) : r ≤ k := Classical.byContradiction fun hn => by
  have hkr : k < r := by omega
  have hlt : rk r k (fl k X) < r := Nat.lt_of_le_of_lt rk_le hkr
  obtain ⟨v, ⟨i, hi, hv⟩, hz⟩ := kernel (by omega) (fl_El k (r * k) X) hlt
  refine hv ?_
  have e1 : sm r (fun l => v l * dl l i) = v i := sm_dl' v hi
  rw [← e1, sm_congr (g := fun l => sm k fun c => v l * X l c * Y c i) fun l hl => by
    rw [h l i hl hi]
    show v l * sm k (fun c => X l c * Y c i) = _
    rw [← sm_mul]
    exact sm_congr fun c _ => (mul_assoc _ _ _).symm, sm_swap]
  refine sm_zero fun c hc => ?_
  rw [sm_mul', sm_congr (g := fun l => v l * Vw k (fl k X) l c) fun l _ => by rw [Vw_fl X hc], hz c hc, zero_mul]
theorem rk_min {k R C : Nat} {g : Nat → Nat} (hR : 0 < R) (hg : El (R * C) g) (h : Fac k R C (Vw C g)) : rk R C g ≤ k := by
  obtain ⟨P, Q, e⟩ := h
  obtain ⟨T, T', G, p, S, _⟩ := gauss hR hg
  have rR := S.rR
  refine no_wide (X := mm R T P) (Y := fun l j => Q l (p j)) fun i j hi hj => ?_
  obtain ⟨h1, h2⟩ := S.pv j hj
  rw [← h2 i (by omega), S.eq i (p j) (by omega) h1]
  have : mm R T (Vw C g) i (p j) = mm R T (mm k P Q) i (p j) := mm_congr (Eqm.refl R R T) e i (p j) (by omega) h1
  rw [this, ← mm_assoc]
  rfl
theorem Fac.congr {k R C : Nat} {A A' : Mt} (e : Eqm R C A A') (h : Fac k R C A) : Fac k R C A' := by
  obtain ⟨P, Q, f⟩ := h
  exact ⟨P, Q, e.symm.trans f⟩
theorem Fac.tr {k R C : Nat} {A : Mt} (h : Fac k R C A) : Fac k C R (tr A) := by
  obtain ⟨P, Q, e⟩ := h
  refine ⟨Gz.tr Q, Gz.tr P, fun i j hi hj => ?_⟩
  show A j i = _
  rw [e j i hj hi, ← tr_mm]
  rfl
theorem rk_tr {R C : Nat} {g g' : Nat → Nat} (hR : 0 < R) (hC : 0 < C) (hg : El (R * C) g) (hg' : El (C * R) g') (e : Eqm C R (Vw R g') (tr (Vw C g))) : rk C R g' = rk R C g := by
  apply Nat.le_antisymm
  · exact rk_min hC hg' ((rk_fac hR hg).tr.congr e.symm)
  · refine rk_min hR hg ((rk_fac hC hg').tr.congr fun i j hi hj => ?_)
    exact e j i hj hi
theorem full_inv {n : Nat} {g : Nat → Nat} (hn : 0 < n) (hg : El (n * n) g) (h : rk n n g = n) : Inv n (Vw n (stepsN n n n n 0 0 g (oneN n)).2.2) (Vw n g) := by
  obtain ⟨T, T', G, p, S, hU⟩ := gauss hn hg
  have e1 : Eqm n n (mm n T (Vw n g)) dl := S.eq.symm.trans (S.sq rfl h)
  have e2 : Eqm n n (Vw n g) T' := S.back.trans ((mm_congr (Eqm.refl n n T') (S.sq rfl h)).trans (dl_mm (Nat.le_refl n) T'))
  exact ⟨(mm_congr hU (Eqm.refl n n _)).trans e1, (mm_congr e2 hU).trans S.inv.r⟩
theorem Vw_turn {R C : Nat} {g : Nat → Nat} : Eqm C R (Vw R (turnF R C g)) (tr (Vw C g)) := fun i j _ hj => by
  show of (turnF R C g (i * R + j)) = of (g (j * C + i))
  rw [turnF_at hj]
theorem turn_El {R C : Nat} {g : Nat → Nat} (hR : 0 < R) (hg : El (R * C) g) : El (C * R) (turnF R C g) := fun t ht => by
  have hd := (Nat.div_lt_iff_lt_mul hR).2 ht
  have hm := Nat.mod_lt t hR
  exact hg _ (pos_lt hm hd)
end Gz
namespace Gz
open Go Gx Go.Proofs Fe
def ls : List Nat → (Nat → Fe) → Fe
  | [], _ => 0
  | y :: l, f => f y + ls l f
theorem ls_congr : ∀ {l : List Nat} {f g : Nat → Fe}, (∀ y ∈ l, f y = g y) → ls l f = ls l g
  | [], _, _, _ => rfl
  | y :: l, f, g, h => by
    show f y + ls l f = g y + ls l g
    rw [h y (by simp), ls_congr fun z hz => h z (by simp [hz])]
theorem ls_zero : ∀ {l : List Nat} {f : Nat → Fe}, (∀ y ∈ l, f y = 0) → ls l f = 0
  | [], _, _ => rfl
  | y :: l, f, h => by
    show f y + ls l f = 0
    rw [h y (by simp), ls_zero fun z hz => h z (by simp [hz]), add_zero]
theorem ls_add : ∀ (l : List Nat) (f g : Nat → Fe), ls l (fun y => f y + g y) = ls l f + ls l g
  | [], _, _ => (add_zero 0).symm
  | y :: l, f, g => by
    show f y + g y + ls l (fun y => f y + g y) = f y + ls l f + (g y + ls l g)
    rw [ls_add l f g]
    ac_rfl
theorem ls_mul : ∀ (l : List Nat) (c : Fe) (f : Nat → Fe), ls l (fun y => c * f y) = c * ls l f
  | [], c, _ => (mul_zero c).symm
  | y :: l, c, f => by
    show c * f y + ls l (fun y => c * f y) = c * (f y + ls l f)
    rw [ls_mul l c f, mul_add]
theorem ls_append : ∀ (l m : List Nat) (f : Nat → Fe), ls (l ++ m) f = ls l f + ls m f
  | [], m, f => (zero_add _).symm
  | y :: l, m, f => by
    show f y + ls (l ++ m) f = f y + ls l f + ls m f
    rw [ls_append l m f, add_assoc]
theorem sm_ls (p : Nat → Bool) : ∀ {k : Nat} {f : Nat → Fe}, (∀ j, p j = false → f j = 0) → sm k f = ls ((List.range k).filter p) f
  | 0, _, _ => rfl
  | k + 1, f, h => by
    rw [sm_s, List.range_succ, List.filter_append, ls_append, sm_ls p h]
    congr 1
    by_cases e : p k = true
    · rw [List.filter_cons_of_pos e]
      show f k = f k + 0
      rw [add_zero]
    · rw [List.filter_cons_of_neg e, h k (by simpa using e)]
      rfl
theorem inv_ne {a : Fe} (h : a ≠ 0) : Fe.inv a ≠ 0 := fun e => one_ne (by rw [← inv_mul h, e, zero_mul])
theorem inv_add {a b : Fe} (ha : a ≠ 0) (hb : b ≠ 0) : Fe.inv a + Fe.inv b = (a + b) * (Fe.inv a * Fe.inv b) := by
  rw [add_mul, ← mul_assoc, mul_inv ha, one_mul, mul_comm (Fe.inv a), ← mul_assoc, mul_inv hb, one_mul, add_comm]
theorem add_ne {a b : Fe} (h : a ≠ b) : a + b ≠ 0 := fun e => h (add_eq_zero e)
theorem cauchy_kernel : ∀ (ys xs : List Nat) (f : Nat → Fe), ys.Nodup → xs.Nodup → ys.length ≤ xs.length → (∀ x ∈ xs, ∀ y ∈ ys, of x ≠ of y) → (∀ a ∈ ys, ∀ b ∈ ys, of a = of b → a = b) → (∀ a ∈ xs, ∀ b ∈ xs, of a = of b → a = b) →
    (∀ x ∈ xs, ls ys (fun y => f y * Fe.inv (of x + of y)) = 0) → ∀ y ∈ ys, f y = 0
  | [], _, _, _, _, _, _, _, _, _ => fun y hy => by simp at hy
  | y0 :: ys, [], _, _, _, h, _, _, _, _ => by simp at h
  | y0 :: ys, x0 :: xs, f, ny, nx, hl, hxy, iy, ix, hz => by
    have n0 : of x0 + of y0 ≠ 0 := add_ne (hxy x0 (by simp) y0 (by simp))
    have ny' := List.nodup_cons.1 ny
    have nx' := List.nodup_cons.1 nx
    have key : ∀ x ∈ x0 :: xs, f y0 + ls ys (fun y => f y + f y * ((of y0 + of y) * Fe.inv (of x + of y))) = 0 := fun x hx => by
      have h1 := hz x hx
      have nx0 : of x + of y0 ≠ 0 := add_ne (hxy x hx y0 (by simp))
      have h2 : (of x + of y0) * ls (y0 :: ys) (fun y => f y * Fe.inv (of x + of y)) = 0 := by rw [h1, mul_zero]
      rw [← ls_mul] at h2
      have h3 : ls (y0 :: ys) (fun y => (of x + of y0) * (f y * Fe.inv (of x + of y))) = f y0 + ls ys (fun y => f y + f y * ((of y0 + of y) * Fe.inv (of x + of y))) := by
        show (of x + of y0) * (f y0 * Fe.inv (of x + of y0)) + ls ys _ = _
        congr 1
        · rw [mul_comm (f y0), ← mul_assoc, mul_inv nx0, one_mul]
        · refine ls_congr fun y hy => ?_
          have ne : of x + of y ≠ 0 := add_ne (hxy x hx y (by simp [hy]))
          have e : of x + of y0 = (of x + of y) + (of y0 + of y) := by
            have : (of x + of y) + (of y0 + of y) = of x + of y0 + (of y + of y) := by ac_rfl
            rw [this, add_self, add_zero]
          rw [e, add_mul, mul_comm (f y), ← mul_assoc, mul_inv ne, one_mul]
          congr 1
          ac_rfl
      rw [h3] at h2
      exact h2
    have ih := cauchy_kernel ys xs (fun y => f y * (of y0 + of y) * Fe.inv (of x0 + of y)) ny'.2 nx'.2 (by simp at hl; exact hl) (fun x hx y hy => hxy x (by simp [hx]) y (by simp [hy])) (fun a ha b hb => iy a (by simp [ha]) b (by simp [hb]))
      (fun a ha b hb => ix a (by simp [ha]) b (by simp [hb])) (fun x hx => by
        have k0 := key x0 (by simp)
        have k1 := key x (by simp [hx])
        have nxx : of x + of x0 ≠ 0 := add_ne fun e => nx'.1 (by rw [← ix x (by simp [hx]) x0 (by simp) e]; exact hx)
        refine mul_cancel nxx ?_
        rw [← ls_mul]
        have e1 : ls ys (fun y => (of x + of x0) * (f y * (of y0 + of y) * Fe.inv (of x0 + of y) * Fe.inv (of x + of y))) = ls ys (fun y => f y * ((of y0 + of y) * Fe.inv (of x + of y))) + ls ys (fun y => f y * ((of y0 + of y) * Fe.inv (of x0 + of y))) := by
          rw [← ls_add]
          refine ls_congr fun y hy => ?_
          have na : of x + of y ≠ 0 := add_ne (hxy x (by simp [hx]) y (by simp [hy]))
          have nb : of x0 + of y ≠ 0 := add_ne (hxy x0 (by simp) y (by simp [hy]))
          have s : of x + of x0 = of x + of y + (of x0 + of y) := by
            have : of x + of y + (of x0 + of y) = of x + of x0 + (of y + of y) := by ac_rfl
            rw [this, add_self, add_zero]
          rw [← mul_add, ← mul_add, inv_add na nb, ← s]
          ac_rfl
        rw [e1]
        rw [ls_add] at k0 k1
        have : (f y0 + (ls ys f + ls ys fun y => f y * ((of y0 + of y) * Fe.inv (of x + of y)))) + (f y0 + (ls ys f + ls ys fun y => f y * ((of y0 + of y) * Fe.inv (of x0 + of y)))) = 0 := by
          have q1 : (f y0 + (ls ys f + ls ys fun y => f y * ((of y0 + of y) * Fe.inv (of x + of y)))) = 0 := k1
          have q0 : (f y0 + (ls ys f + ls ys fun y => f y * ((of y0 + of y) * Fe.inv (of x0 + of y)))) = 0 := k0
          rw [q1, q0, add_zero]
        have e2 : (f y0 + (ls ys f + ls ys fun y => f y * ((of y0 + of y) * Fe.inv (of x + of y)))) + (f y0 + (ls ys f + ls ys fun y => f y * ((of y0 + of y) * Fe.inv (of x0 + of y)))) =
            (f y0 + f y0) + (ls ys f + ls ys f) + (ls ys (fun y => f y * ((of y0 + of y) * Fe.inv (of x + of y))) + ls ys (fun y => f y * ((of y0 + of y) * Fe.inv (of x0 + of y)))) := by ac_rfl
        rw [e2, add_self, add_self, add_zero, zero_add] at this
        exact this)
    have hys : ∀ y ∈ ys, f y = 0 := fun y hy => by
      have h1 := ih y hy
      have na : of y0 + of y ≠ 0 := add_ne fun e => ny'.1 (by rw [iy y0 (by simp) y (by simp [hy]) e]; exact hy)
      have nb : Fe.inv (of x0 + of y) ≠ 0 := inv_ne (add_ne (hxy x0 (by simp) y (by simp [hy])))
      have : (of y0 + of y) * Fe.inv (of x0 + of y) * f y = 0 := by
        rw [← h1]; ac_rfl
      exact mul_cancel (mul_ne na nb) this
    intro y hy
    rcases List.mem_cons.1 hy with rfl | hy
    · have h1 := hz x0 (by simp)
      have h2 : f y * Fe.inv (of x0 + of y) + ls ys (fun z => f z * Fe.inv (of x0 + of z)) = 0 := h1
      rw [ls_zero fun z hz => by rw [hys z hz, zero_mul], add_zero, mul_comm] at h2
      exact mul_cancel (inv_ne n0) h2
    · exact hys y hy
theorem nodup_filter {p : Nat → Bool} {l : List Nat} (h : l.Nodup) : (l.filter p).Nodup := List.Pairwise.filter p h
theorem nodup_le : ∀ (k : Nat) (l : List Nat), l.Nodup → (∀ x ∈ l, x < k) → l.length ≤ k
  | 0, l, _, h => by
    cases l with
    | nil => simp
    | cons x l => exact absurd (h x (by simp)) (by omega)
  | k + 1, l, hn, h => by
    have ih := nodup_le k (l.erase k) (hn.erase k) fun x hx => by
      have h1 := (List.Nodup.mem_erase_iff hn).1 hx
      have := h x h1.2
      have := h1.1
      omega
    have := List.length_erase (a := k) (l := l)
    rw [this] at ih
    split at ih <;> omega
def cauN (k t : Nat) : Nat := (cau k t).toNat
theorem cauN_at {i j k : Nat} (hj : j < k) : cauN k (i * k + j) = if i < k then (if i = j then 1 else 0) else divT 1 (i ^^^ j) := by
  unfold cauN
  rw [cau_at hj]
  split
  · split <;> rfl
  · simp
theorem cauN_El {k N : Nat} (hk : 0 < k) : El N (cauN k) := fun t _ => by
  have e : t / k * k + t % k = t := by have := Nat.div_add_mod t k; rw [Nat.mul_comm] at this; exact this
  rw [← e, cauN_at (Nat.mod_lt _ hk)]
  split
  · split <;> omega
  · exact divT_lt
theorem Vw_cau {i j k : Nat} (hi : i < 256) (hj : j < k) (hk : k ≤ 256) : Vw k (cauN k) i j = if i < k then dl i j else Fe.inv (of i + of j) := by
  unfold Vw
  rw [cauN_at hj]
  by_cases e : i < k
  · rw [if_pos e, if_pos e]
    unfold dl
    split
    · exact of_one
    · exact of_zero
  · rw [if_neg e, if_neg e, ← of_xor hi (by omega)]
    refine Fe.ext ?_
    rw [of_v divT_lt]
    show _ = divT 1 (of (i ^^^ j)).v
    rw [of_v (xor_lt hi (by omega))]
theorem any_rows {k n : Nat} (hk : 0 < k) (hn : n ≤ 255) {ws : List Nat} (hl : ws.length = k) (hnd : ws.Nodup) (hlt : ∀ x ∈ ws, x < n) (w : Nat → Nat) (hw : ∀ i, i < k → ws[i]? = some (w i)) (hkn : k ≤ n) :
    rk k k (pickF k (cauN k) w) = k := by
  have hwn : ∀ i, i < k → w i < n := fun i hi => hlt _ (mem_of (hw i hi))
  have hE : El (k * k) (pickF k (cauN k) w) := fun t ht => by
    unfold pickF
    exact cauN_El hk (N := n * k) _ (pos_lt (hwn _ ((Nat.div_lt_iff_lt_mul hk).2 ht)) (Nat.mod_lt _ hk))
  have hT := turn_El hk hE
  have hrt := rk_tr hk hk hE hT Vw_turn
  have hle : rk k k (pickF k (cauN k) w) ≤ k := rk_le
  refine Classical.byContradiction fun hne => ?_
  obtain ⟨v, ⟨j0, hj0, hv0⟩, hz⟩ := kernel hk hT (by omega : rk k k (turnF k k (pickF k (cauN k) w)) < k)
  have eqn : ∀ i, i < k → sm k (fun j => v j * Vw k (cauN k) (w i) j) = 0 := fun i hi => by
    rw [← hz i hi]
    refine sm_congr fun j hj => ?_
    rw [Vw_turn j i hj hi]
    show _ = v j * of (pickF k (cauN k) w (i * k + j))
    rw [pickF_at hj]
    rfl
  have low : ∀ i, i < k → w i < k → v (w i) = 0 := fun i hi hwi => by
    have := eqn i hi
    rw [sm_congr (g := fun j => v j * dl j (w i)) fun j hj => by rw [Vw_cau (by have := hwn i hi; omega) hj (by omega), if_pos hwi, dl_comm], sm_dl' v hwi] at this
    exact this
  have idx : ∀ x ∈ ws, ∃ i, i < k ∧ w i = x := fun x hx => by
    obtain ⟨i, hi, e⟩ := List.mem_iff_getElem.1 hx
    refine ⟨i, by omega, ?_⟩
    have := hw i (by omega)
    rw [List.getElem?_eq_getElem hi, e] at this
    exact (Option.some.inj this).symm
  obtain ⟨p, hp⟩ : ∃ p : Nat → Bool, ∀ j, p j = true ↔ v j ≠ 0 := ⟨fun j => @decide (v j ≠ 0) (Classical.propDecidable _), fun j => by simp⟩
  have hpz : ∀ j, p j = false → v j = 0 := fun j hj => Classical.byContradiction fun e => by
    have := (hp j).2 e
    rw [hj] at this
    cases this
  have ysmem : ∀ y ∈ (List.range k).filter p, y < k ∧ v y ≠ 0 := fun y hy => by
    have := List.mem_filter.1 hy
    exact ⟨List.mem_range.1 this.1, (hp y).1 this.2⟩
  have hcount : ((List.range k).filter p).length ≤ (ws.filter fun x => !decide (x < k)).length := by
    have h1 : ((List.range k).filter p ++ ws.filter fun x => decide (x < k)).length ≤ k := by
      refine nodup_le k _ ?_ fun x hx => ?_
      · refine List.nodup_append.2 ⟨nodup_filter List.nodup_range, nodup_filter hnd, fun a ha b hb e => ?_⟩
        subst e
        have h2 := ysmem a ha
        have h3 := List.mem_filter.1 hb
        obtain ⟨i, hi, hwi⟩ := idx a h3.1
        exact h2.2 (by rw [← hwi]; exact low i hi (by rw [hwi]; exact h2.1))
      · rcases List.mem_append.1 hx with hx | hx
        · exact (ysmem x hx).1
        · have := (List.mem_filter.1 hx).2
          simpa using this
    have h2 : ∀ l : List Nat, (l.filter fun x => decide (x < k)).length + (l.filter fun x => !decide (x < k)).length = l.length := by
      intro l
      induction l with
      | nil => rfl
      | cons x l ih =>
        by_cases c : x < k
        · rw [List.filter_cons_of_pos (by simpa using c), List.filter_cons_of_neg (by simpa using c), List.length_cons, List.length_cons]; omega
        · rw [List.filter_cons_of_neg (by simpa using c), List.filter_cons_of_pos (by simpa using c), List.length_cons, List.length_cons]; omega
    rw [List.length_append] at h1
    have := h2 ws
    omega
  have oinj : ∀ a b, a < 256 → b < 256 → of a = of b → a = b := fun a b ha hb h => of_inj ha hb h
  have all := cauchy_kernel ((List.range k).filter p) (ws.filter fun x => !decide (x < k)) v (nodup_filter List.nodup_range) (nodup_filter hnd) hcount
    (fun x hx y hy e => by
      have h1 := List.mem_filter.1 hx
      have h2 := (ysmem y hy).1
      have h3 := hlt x h1.1
      have := oinj x y (by omega) (by omega) e
      have h4 := h1.2
      simp at h4
      omega)
    (fun a ha b hb e => oinj a b (by have := (ysmem a ha).1; omega) (by have := (ysmem b hb).1; omega) e)
    (fun a ha b hb e => oinj a b (by have := hlt a (List.mem_filter.1 ha).1; omega) (by have := hlt b (List.mem_filter.1 hb).1; omega) e)
    (fun x hx => by
      have h1 := List.mem_filter.1 hx
      obtain ⟨i, hi, hwi⟩ := idx x h1.1
      have h4 := h1.2
      simp at h4
      have := eqn i hi
      rw [sm_congr (g := fun j => v j * Fe.inv (of x + of j)) fun j hj => by rw [Vw_cau (by have := hwn i hi; omega) hj (by omega), if_neg (by omega), hwi]] at this
      rw [← sm_ls p fun j hj => by rw [hpz j hj, zero_mul]]
      exact this)
  exact hv0 (all j0 (List.mem_filter.2 ⟨List.mem_range.2 hj0, (hp j0).2 hv0⟩))
end Gz
namespace Gz
open Go Gx Go.Proofs
structure Gl (base : Nat) (h : AHeap) (s : Slc) (xs : List Int) : Prop where
  st : ((s = nilS ∨ ∃ b0, s = ⟨some ⟨b0, 0, some 0⟩, 0, 0⟩) ∧ xs = []) ∨ ∃ b, Grown encI 3 h b s xs
  lt : ∀ a, s.a = some a → a.block < h.next ∧ base ≤ a.block
theorem Gl.nil (base : Nat) (h : AHeap) : Gl base h nilS [] := ⟨.inl ⟨.inl rfl, rfl⟩, fun a ha => by cases ha⟩
theorem Gl.zero {base b0 : Nat} {h : AHeap} (h1 : b0 < h.next) (h2 : base ≤ b0) : Gl base h ⟨some ⟨b0, 0, some 0⟩, 0, 0⟩ [] := ⟨.inl ⟨.inr ⟨b0, rfl⟩, rfl⟩, fun a ha => by cases ha; exact ⟨h1, h2⟩⟩
theorem Gl.row {base : Nat} {h : AHeap} {s : Slc} {xs : List Int} (G : Gl base h s xs) : Row encI h s xs := by
  rcases G.st with ⟨h1, rfl⟩ | ⟨b, g⟩
  · rcases h1 with rfl | ⟨b0, rfl⟩
    · exact Row.nil _ _ _ _
    · exact Row.nil _ _ _ _
  · exact g.row (G.lt ⟨b, 0, some 2⟩ (by rw [g.s])).1
theorem Gl.chg {base : Nat} {S : Nat → Prop} {h h' : AHeap} {s : Slc} {xs : List Int} (G : Gl base h s xs) (c : Chg S h h') (hs : ∀ a, s.a = some a → ¬ S a.block) : Gl base h' s xs := by
  refine ⟨G.st.imp id ?_, fun a ha => ⟨Nat.lt_of_lt_of_le (G.lt a ha).1 c.nx, (G.lt a ha).2⟩⟩
  rintro ⟨b, g⟩
  exact ⟨b, g.chg (G.lt ⟨b, 0, some 2⟩ (by rw [g.s])).1 c (hs ⟨b, 0, some 2⟩ (by rw [g.s]))⟩
theorem Gl.keeps {base : Nat} {h h' : AHeap} {s : Slc} {xs : List Int} (G : Gl base h s xs) (c : Keeps h h') : Gl base h' s xs := G.chg c fun _ _ f => f
theorem Gl.inM {base : Nat} {h : AHeap} {s : Slc} {xs : List Int} (G : Gl base h s xs) : InM h s xs := by
  refine ⟨G.row, fun hx => ?_⟩
  rcases G.st with ⟨_, e⟩ | ⟨b, g⟩
  · exact absurd e hx
  · exact ⟨b, some 2, g.s, rfl, g.blk, (G.lt ⟨b, 0, some 2⟩ (by rw [g.s])).1⟩
theorem copy_nil' {h : AHeap} {xs : List Int} (hx : xs.length ≠ 0) (hs : 16 * xs.length ≤ 281474976710656) : appendA 1 8 3 h (⟨none, 0, 0⟩ : Slc) (xs.map encI) xs.length = some (whole h.next xs.length (some 2), h.new (outB encI 3 xs)) := by
  unfold appendA
  rw [if_neg (show ¬ (0 + xs.length ≤ 0) by omega), if_pos (show 2 * (0 + xs.length) * 8 ≤ 281474976710656 ∧ 1 ≤ 8 by omega)]
  rfl
theorem Gl.append {base : Nat} {h : AHeap} {s : Slc} {xs ys : List Int} (G : Gl base h s xs) (hs : 16 * (xs.length + ys.length) ≤ 281474976710656) (hb : base ≤ h.next) :
    ∃ s' h', appendA 1 8 3 h s (ys.map encI) ys.length = some (s', h') ∧ Gl base h' s' (xs ++ ys) ∧ Chg (ofS s) h h' ∧ ∀ a, s'.a = some a → h.next ≤ a.block ∨ ofS s a.block := by
  have nx : ∀ a : Addr, a.block < h.next → a.block < (h.new (outB encI 3 ys)).next := fun a ha => by simp; omega
  rcases G.st with ⟨h1, rfl⟩ | ⟨b, g⟩
  · by_cases e : ys = []
    · subst e
      rcases h1 with rfl | ⟨b0, rfl⟩
      · exact ⟨nilS, h, rfl, G, .refl _ _, fun a ha => by cases ha⟩
      · exact ⟨_, h, append_none (enc := encI), G, .refl _ _, fun a ha => .inr ⟨a, ha, rfl⟩⟩
    · have l0 : ys.length ≠ 0 := fun h => e (List.length_eq_zero_iff.1 h)
      have gr := Grown.of (enc := encI) (e := 3) (h := h) (xs := ys) e
      rcases h1 with rfl | ⟨b0, rfl⟩
      · exact ⟨_, _, copy_nil' l0 (by simp at hs; omega), ⟨.inr ⟨_, gr⟩, fun a ha => by cases ha; simp; omega⟩, Chg.new _ _, fun a ha => by cases ha; simp⟩
      · exact ⟨_, _, append_fresh (enc := encI) l0 (by simp at hs; omega) (by omega), ⟨.inr ⟨_, gr⟩, fun a ha => by cases ha; simp; omega⟩, Chg.new _ _, fun a ha => by cases ha; simp⟩
  · have hlt := G.lt ⟨b, 0, some 2⟩ (by rw [g.s])
    by_cases e : ys = []
    · subst e
      refine ⟨s, h, ?_, by rw [List.append_nil]; exact G, .refl _ _, fun a ha => .inr ⟨a, ha, rfl⟩⟩
      rw [g.s]
      simp [appendA]
    · have ap := g.append (bytes := 8) (ys := ys) (fun _ => rfl) e (by omega) (by omega)
      refine ⟨_, _, ap, ⟨.inr ⟨_, rfl, by simp, fun e' => e (List.append_eq_nil_iff.1 e').2⟩, fun a ha => by cases ha; simp; omega⟩, Chg.kill_new (.inr ⟨⟨b, 0, some 2⟩, by rw [g.s], rfl⟩), fun a ha => by cases ha; simp⟩
structure GA (H0 : AHeap) (base ob : Nat) (r c : Int) (xs : List Int) (h : AHeap) (s : Slc) : Prop where
  ch : Chg (fun x => base ≤ x) H0 h
  co : h.get ob = some (.cells (mcell r c s) 84 true 0)
  lo : ob < h.next
  bo : base ≤ ob
  gl : Gl base h s xs
  no : ∀ a, s.a = some a → a.block ≠ ob
theorem GA.push {H0 : AHeap} {base ob : Nat} {r c : Int} {xs : List Int} {h : AHeap} {s : Slc} (G : GA H0 base ob r c xs h s) (x : Int) (hs : xs.length ≤ 1000000) :
    ∃ g s' h1 h2, g = h.new (.cells [.int .i64 x] 3 true 0) ∧ Gx.rdS 1 (⟨some ⟨h.next, 0, some 0⟩, 1, 1⟩ : Slc) g = some [.int .i64 x] ∧ appendA 1 8 3 g s [.int .i64 x] 1 = some (s', h1) ∧ st1 ⟨ob, 2, none⟩ (.slice s'.a s'.len s'.cap) h1 = some h2 ∧
      g.get ob = some (.cells (mcell r c s) 84 true 0) ∧ GA H0 base ob r c (xs ++ [x]) h2 s' := by
  have k1 : Keeps h (h.new (.cells [.int .i64 x] 3 true 0)) := Keeps.new h _
  have lo := G.lo
  have bo := G.bo
  have cg : (h.new (.cells [.int .i64 x] 3 true 0)).get ob = some (.cells (mcell r c s) 84 true 0) := by rw [k1.oth _ lo (fun f => f)]; exact G.co
  obtain ⟨s', h1, ap, G1, c1, n1⟩ := (G.gl.keeps k1).append (ys := [x]) (by simp; omega) (by simp; omega)
  have no' : ∀ a, s'.a = some a → a.block ≠ ob := fun a ha => by
    rcases n1 a ha with q | ⟨b, hb, e⟩
    · simp at q; omega
    · rw [e]; exact G.no b hb
  have co1 : h1.get ob = some (.cells (mcell r c s) 84 true 0) := by rw [c1.oth _ (by simp; omega) (fun ⟨a, ha, e⟩ => G.no a ha e.symm)]; exact cg
  have cset : Chg (· = ob) h1 (h1.set ob (.cells (mcell r c s') 84 true 0)) := Chg.set (.inr rfl)
  have l1 : ob < h1.next := by have := c1.nx; simp at this; omega
  refine ⟨_, s', h1, _, rfl, rdS_one, ap, stS2 co1, cg, ⟨?_, by simp, l1, bo, G1.chg cset no', no'⟩⟩
  refine ((G.ch.trans (Chg.keeps k1)).trans (c1.wk fun x hx => ?_)).trans (cset.wk fun x _ e => ?_)
  · rintro ⟨a, ha, rfl⟩; exact (G.gl.lt a ha).2
  · have e : x = ob := e
    rw [e]; exact bo
end Gz
namespace Gz
open Go Gx Go.Proofs Fe
theorem chk_mat {R C : Nat} {g : Nat → Nat} (h1 : 1 ≤ R) (h2 : R ≤ 255) (h3 : 1 ≤ C) (h4 : C ≤ 255) (hg : El (R * C) g) : chk R C (matN (R * C) g) = 0 := by
  unfold chk
  rw [if_neg (by omega), if_neg, if_pos]
  · rw [List.all_eq_true]
    intro x hx
    obtain ⟨t, ht, e⟩ := List.mem_iff_getElem.1 hx
    have hl : (matN (R * C) g).length = R * C := mat_length _ _
    have e2 : (matN (R * C) g)[t]? = some x := by rw [List.getElem?_eq_getElem ht, e]
    unfold matN at e2
    rw [mat_get (by omega)] at e2
    cases e2
    have := hg t (by omega)
    simp [elemB]
    omega
  · rw [show (matN (R * C) g).length = R * C from mat_length _ _]
    simp
theorem matN_ext {N : Nat} {f g : Nat → Nat} (h : ∀ t, t < N → f t = g t) : matN N f = matN N g := mat_congr fun t ht => by rw [h t ht]
def invU (n : Nat) (a : Nat → Nat) : Nat → Nat := (stepsN n n n n 0 0 a (oneN n)).2.2
theorem invP_ok {n : Nat} {a : Nat → Nat} (h1 : 1 ≤ n) (h2 : n ≤ 255) (ha : El (n * n) a) : invP n n (matN (n * n) a) = if rk n n a = n then (((n : Int), (n : Int), matN (n * n) (invU n a)), 0) else noM 40 := by
  unfold invP
  rw [if_neg (fun h => h (chk_mat h1 h2 h1 h2 ha)), if_neg (fun h => h rfl)]
  simp only [Int.toNat_natCast]
  have sc := steps_congr (R := n) h1 h1 n 0 0 (g := natOf (matN (n * n) a)) (g' := a) (u := oneN n) (u' := oneN n) (by omega) (by omega) (fun t ht => natOf_mat ht) (fun _ _ => rfl)
  have e := rk_any (R := n) (C := n) n a (oneN n)
  rw [sc.1, e]
  have hle : rk n n a ≤ n := rk_le
  by_cases c : rk n n a = n
  · rw [if_neg (by omega), if_pos c]
    unfold invU
    rw [matN_ext fun t ht => sc.2.2 t ht]
  · rw [if_pos (by omega), if_neg c]
theorem invU_El {n : Nat} {a : Nat → Nat} (hn : 0 < n) (ha : El (n * n) a) : El (n * n) (invU n a) := by
  obtain ⟨T, T', p, j, _, _, _, _, h4, _⟩ := gaussN (C := n) hn n 0 0 a (oneN n) (fun k => k) (by omega) ha (oneN_El n) ⟨by omega, by omega, fun k hk => by omega, fun i _ _ c hc => by omega, fun _ k hk => by omega⟩
  exact h4
structure MV (sb fb : Nat) (h : AHeap) (b R C : Nat) (s : Slc) (g : Nat → Nat) : Prop where
  cel : h.get b = some (.cells (mcell R C s) 84 true 0)
  lt : b < h.next
  nf : b ≠ fb
  inm : InM h s (matN (R * C) g)
  ap : ∀ a, s.a = some a → a.block ≠ sb ∧ a.block ≠ fb
  r1 : 1 ≤ R
  r2 : R ≤ 255
  c1 : 1 ≤ C
  c2 : C ≤ 255
  el : El (R * C) g
section
variable {k0 : Nat} {sb fb : Nat} {h h' : AHeap} {b b2 R C C2 n : Nat} {s s2 : Slc} {f g : Nat → Nat}
theorem MV.chg (m : MV sb fb h b R C s g) (c : Chg (· = fb) h h') : MV sb fb h' b R C s g :=
  ⟨by rw [c.oth _ m.lt m.nf]; exact m.cel, Nat.lt_of_lt_of_le m.lt c.nx, m.nf, m.inm.chg c fun a ha => (m.ap a ha).2, m.ap, m.r1, m.r2, m.c1, m.c2, m.el⟩
theorem MV.keeps (m : MV sb fb h b R C s g) (c : Keeps h h') : MV sb fb h' b R C s g := m.chg (Chg.keeps c)
theorem MV.len (m : MV sb fb h b R C s g) : (matN (R * C) g).length ≤ 100000 := by
  rw [show (matN (R * C) g).length = R * C from mat_length _ _]
  exact Nat.le_trans (Nat.mul_le_mul m.r2 m.c2) (by omega)
theorem MV.put {h1 : AHeap} {X : (Int × Int × Slc) × Int} {p : MRes} (S : Spc h sb fb) (O : Out h h1 X p) (c1 : Chg (· = fb) h h1) (S1 : Spc h1 sb fb) (hp : p = (((R : Int), (C : Int), matN (R * C) g), 0)) (r1 : 1 ≤ R) (r2 : R ≤ 255) (q1 : 1 ≤ C) (q2 : C ≤ 255) (el : El (R * C) g) :
    ∃ h2 s', X = (((R : Int), (C : Int), s'), 0) ∧ stL 3 ⟨h1.next, 0, none⟩ (mcell R C s') (h1.new (.cells [.int .i64 0, .int .i64 0, .slice none 0 0] 84 true 0)) = some h2 ∧ MV sb fb h2 h1.next R C s' g ∧ Spc h2 sb fb ∧ Chg (· = fb) h h2 := by
  obtain ⟨⟨r, c, s'⟩, code⟩ := X
  subst hp
  obtain rfl : r = (R : Int) := O.r
  obtain rfl : c = (C : Int) := O.c
  obtain rfl : code = 0 := O.code
  obtain ⟨h2, st2, k2, n2, b2⟩ := mvar (h := h1) (e := 84) (r := (R : Int)) (c := (C : Int)) (s := s')
  have ls := S.ls
  have lf := S.lf
  have nx := c1.nx
  exact ⟨h2, s', rfl, st2, ⟨b2, by omega, by omega, O.inm.keeps k2, fun a ha => by have := O.off a ha; exact ⟨by omega, by omega⟩, r1, r2, q1, q2, el⟩, S1.keeps k2, c1.trans (Chg.keeps k2)⟩
end
end Gz
namespace Gz
open Go Gx Go.Proofs Fe
end Gz
namespace Gz
open Go Gx Go.Proofs Fe
section
variable {k0 : Nat} {H0 : AHeap} {base N K : Nat}
end
theorem pickP_ok {R C : Nat} {a : Nat → Nat} {rows : List Int} (h1 : 1 ≤ R) (h2 : R ≤ 255) (h3 : 1 ≤ C) (h4 : C ≤ 255) (ha : El (R * C) a) (r1 : 1 ≤ rows.length) (r2 : rows.length ≤ 255) (ok : rows.all (okR R) = true) :
    pickP R C (matN (R * C) a) rows = (((rows.length : Int), (C : Int), matN (rows.length * C) (pickF C a (natOf rows))), 0) := by
  unfold pickP
  rw [if_neg (fun h => h (chk_mat h1 h2 h3 h4 ha)), if_neg (by omega), if_pos (show rows.all (okR (R : Int).toNat) = true from ok)]
  simp only [Int.toNat_natCast]
  rw [matN_ext fun t ht => ?_]
  have hd := (Nat.div_lt_iff_lt_mul h3).2 ht
  have hm := Nat.mod_lt t h3
  unfold pickF
  exact natOf_mat (pos_lt (okR_nat ok hd).2 hm)
end Gz
namespace Gz
open Go Gx Go.Proofs
theorem cau_cast (k t : Nat) : cau k t = ((cauN k t : Nat) : Int) := by
  unfold cauN cau
  split
  · split <;> rfl
  · simp
theorem mat_cauN (k N : Nat) : mat N (cau k) = matN N (cauN k) := mat_congr fun t _ => cau_cast k t
def invR (k : Nat) (ps : List Prt) : Nat → Nat := invU k (pickF k (cauN k) (natOf (idxs ps)))
def rowI (k : Nat) (ps : List Prt) (i : Nat) : List Int := (List.range k).map fun j => ((invR k ps (i * k + j) : Nat) : Int)
def datas (ps : List Prt) : List ByteArray := ps.map (·.2)
def pieceA (k : Nat) (ps : List Prt) (i : Nat) : ByteArray := (mixA (datas ps) (rowI k ps i)).1
def piecesA (k : Nat) (ps : List Prt) : List ByteArray := (List.range k).map (pieceA k ps)
structure GoodK (k m n : Nat) (ps : List Prt) : Prop where
  len : ps.length = k
  nd : (idxs ps).Nodup
  rng : ∀ x ∈ ps, 0 ≤ x.1 ∧ x.1 < ((k + m : Nat) : Int)
  sz : ∀ x ∈ ps, x.2.size = n
theorem subL_rowS {B k i N : Nat} {sp : Option Nat} (hsp : spOk sp 1 = true) (hk : 0 < k) (hi : i * k + k ≤ N) (hN : N ≤ 70000) (hi2 : i ≤ 255) : Gx.subL 1 (⟨some ⟨B, 0, sp⟩, N, N⟩ : Slc) (some (IntKind.wrap .i64 ((i : Int) * (k : Int)))) (some (IntKind.wrap .i64 ((IntKind.wrap .i64 ((i : Int) + 1)) * (k : Int)))) none = some (⟨some ⟨B, i * k, sp⟩, k, N - i * k⟩ : Slc) := by
  have e1 : (i : Int) * (k : Int) = ((i * k : Nat) : Int) := by simp
  have e3 : IntKind.wrap .i64 ((i : Int) + 1) = ((i + 1 : Nat) : Int) := by rw [w64 _ (by omega)]; omega
  have e4 : ((i + 1 : Nat) : Int) * (k : Int) = ((i * k + k : Nat) : Int) := by push_cast; rw [Int.add_mul, Int.one_mul]
  have e2 : IntKind.wrap .i64 ((i : Int) * (k : Int)) = ((i * k : Nat) : Int) := by rw [e1]; exact w64 _ (by omega)
  rw [e3, e4, e2, w64 ((i * k + k : Nat) : Int) (by omega)]
  simp only [Gx.subL, Option.getD_none, Option.getD_some]
  rw [if_pos (by omega), if_pos hsp, if_neg (by omega)]
  simp only [Int.toNat_natCast, Nat.mul_one, Nat.zero_add, Option.isSome_none, Bool.false_eq_true, if_false]
  rw [show (((i * k + k : Nat) : Int) - ((i * k : Nat) : Int)).toNat = k by omega, show ((N : Int) - ((i * k : Nat) : Int)).toNat = N - i * k by omega]
theorem matN_rowR {k N : Nat} {g : Nat → Nat} {h : AHeap} {B : Nat} (hb : h.get B = some (outB encI 3 (matN N g))) (hl : B < h.next) {i : Nat} (hi : i * k + k ≤ N) (cap : Nat) (sp : Option Nat) : Row encI h (⟨some ⟨B, i * k, sp⟩, k, cap⟩ : Slc) ((List.range k).map fun j => ((g (i * k + j) : Nat) : Int)) := by
  have := Row.of_block (enc := encI) (h := h) (xs := (List.range k).map fun j => ((g (i * k + j) : Nat) : Int)) (b := B) (o := i * k) (sp := sp) (cap := cap) (c := (matN N g).map encI) (e := 3) (r := true) (fz := 0) hb hl (fun j x hx => by
    have hj : j < k := by
      have := (List.getElem?_eq_some_iff.1 hx).1; simpa using this
    have hx' : x = ((g (i * k + j) : Nat) : Int) := by simp [hj] at hx; exact hx.symm
    unfold matN
    rw [List.getElem?_map, mat_get (show i * k + j < N by omega), hx']; rfl)
  simpa using this
theorem brow_spec (k0 : Nat) (D : CallF) {h : AHeap} {pb f2 B sb fb k m : Nat} (p : PL h pb f2 B sb fb k m) (hk : 0 < k) (hk2 : k ≤ 255) {B2 : Nat} {sp : Option Nat} (hsp : spOk sp 1 = true) {i : Nat} (hi : i < k) :
    ∃ h', stripe_Plan_row k0 D (some ⟨pb, 0, none⟩) ((k : Int), (k : Int), whole B2 (k * k) sp) (i : Int) h = some ((⟨some ⟨B2, i * k, sp⟩, k, k * k - i * k⟩ : Slc), h') ∧ Keeps h h' := by
  simp only [stripe_Plan_row]
  let h1 := h.new (.cells (mcell (k : Int) (k : Int) (whole B2 (k * k) sp)) 84 true 0)
  have k1 : Keeps h h1 := Keeps.new _ _
  have b1 : h1.get h.next = some (.cells (mcell (k : Int) (k : Int) (whole B2 (k * k) sp)) 84 true 0) := by simp [h1]
  have p1 := p.keeps k1
  have l0 : ldI .i64 ⟨pb, 0, none⟩ h1 = some (k : Int) := ldI_at p1.blk rfl
  have hle : i * k + k ≤ k * k := by have := Nat.mul_le_mul_right k hi; rw [Nat.succ_mul] at this; exact this
  have hN : k * k ≤ 65025 := Nat.le_trans (Nat.mul_le_mul hk2 hk2) (by decide)
  refine ⟨h1, ?_, k1⟩
  have hL : ldL ⟨h.next, 2, none⟩ h1 = some (whole B2 (k * k) sp) := by simp [ldL, AHeap.rd1, b1, mcell, decL, whole]
  refine bnd hL (bnd rfl (bnd l0 (bnd rfl (bnd l0 ?_))))
  exact bnd (subL_rowS hsp hk hle (by omega) (by omega)) rfl
theorem rdS_blk {h : AHeap} {b : Nat} {v : Value} {e : TypeId} (hb : h.get b = some (.cells [v] e true 0)) : Gx.rdS 1 (⟨some ⟨b, 0, some 0⟩, 1, 1⟩ : Slc) h = some [v] := by
  have := rdL_all hb
  simpa [Gx.rdS] using this
theorem take_map {α β : Type} {f : α → β} {l : List α} {i : Nat} {x : α} (hx : l[i]? = some x) : (l.take i).map f ++ [f x] = (l.take (i + 1)).map f := by
  rw [List.take_add_one, hx]; simp
abbrev pc1T := Option Addr → Slc → Slc → Slc → Int → Int → AHeap → Option ((Slc) × AHeap)
theorem pc_l1 (K : Nat) (D : CallF) (j) (bot : pc1T) (pa : Option Addr) {h0 : AHeap} {y : Slc} {ps : List Prt} (R : Row2 h0 y ps) (hps : ps.length ≤ 1000) :
    ∀ (d i : Nat) (h : AHeap) (rs ds : Slc), i + d = ps.length → Keeps h0 h → Acc encI 3 h0.next h rs (idxs (ps.take i)) → Acc encS 9 h0.next h ds (datas (ps.take i)) → ApartS rs ds →
    ∃ h' rs' ds', iterK bot (d + 1) (stripe_Plan_pieces_l1b K D j) pa rs ds y (ps.length : Int) (i : Int) h = j pa rs' ds' h' ∧ Keeps h0 h' ∧ Acc encI 3 h0.next h' rs' (idxs ps) ∧ Acc encS 9 h0.next h' ds' (datas ps)
  | 0, i, h, rs, ds, hi, kh, A, Bd, _ => by
    obtain rfl : i = ps.length := by omega
    rw [List.take_length] at A Bd
    refine ⟨h, rs, ds, ?_, kh, A, Bd⟩
    rw [iterK_s]; simp only [stripe_Plan_pieces_l1b]
    exact ifn (by simp) rfl
  | d + 1, i, h, rs, ds, hi, kh, A, Bd, ap => by
    obtain ⟨x, hx⟩ := isome (l := ps) (i := i) (by omega)
    obtain ⟨q, i1, i2⟩ := (R.keeps kh).ld hx
    let xb := h.next
    let h57 := (h.new (.cells [.int .i64 0, .string ⟨#[]⟩] 61 true 0)).set xb (.cells (enc2 x) 61 true 0)
    have hz : (h.new (.cells [.int .i64 0, .string ⟨#[]⟩] 61 true 0)).get xb = some (.cells [.int .i64 0, .string ⟨#[]⟩] 61 true 0) := by simp [xb]
    have k57 : Keeps h h57 := Chg.beh (Keeps.new h _) (Chg.set (S := (· = xb)) (.inr rfl)) (fun w hw e => by have : w = h.next := e; omega)
    have hx57 : h57.get xb = some (.cells (enc2 x) 61 true 0) := set_get _ _ _
    have n57 : h57.next = h.next + 1 := rfl
    let h58 := h57.resv 2
    have k58 : Keeps h57 h58 := ⟨by show h57.next ≤ h57.next + 2; omega, fun _ _ _ => rfl⟩
    have hx58 : h58.get xb = some (.cells (enc2 x) 61 true 0) := hx57
    let h60 := h58.set (h57.next + 0) (.cells [.int .i64 x.1] 3 true 0)
    have c60 : Chg (· = h57.next) h58 h60 := Chg.set (.inr rfl)
    have k60 : Keeps h h60 := Chg.beh (k57.trans k58) c60 (fun w hw e => by have : w = h57.next := e; omega)
    have n60 : h60.next = h.next + 3 := rfl
    have hx60 : h60.get xb = some (.cells (enc2 x) 61 true 0) := (c60.oth xb (by show h.next < h.next + 1 + 2; omega) (fun e => by have : h.next = h.next + 1 := e; omega)).trans hx58
    have b60 : h60.get (h57.next + 0) = some (.cells [encI x.1] 3 true 0) := set_get _ _ _
    have hn0 := kh.nx
    obtain ⟨rs2, h61, ra, A61, c61, r61⟩ := Acc.push' (A.keeps k60) (bytes := 8) (fun _ => rfl) x.1 (by simp [idxs]; omega) (by decide) (by omega)
    have n61 := c61.nx
    have B61 : Acc encS 9 h0.next h61 ds (datas (ps.take i)) := (Bd.keeps k60).chg c61 (fun a ha e => by
      obtain ⟨a2, ha2, he⟩ := e
      exact ap a2 a ha2 ha he.symm)
    have hx61 : h61.get xb = some (.cells (enc2 x) 61 true 0) := (c61.oth xb (by rw [n60]; show h.next < h.next + 3; omega) (fun e => by
      obtain ⟨a2, ha2, he⟩ := e
      have := (A.lt a2 ha2).1
      have : h.next = a2.block := he
      omega)).trans hx60
    let h66 := h61.set (h57.next + 1) (.cells [.string x.2] 9 true 0)
    have c66 : Chg (· = h57.next + 1) h61 h66 := Chg.set (.inr rfl)
    have b66 : h66.get (h57.next + 1) = some (.cells [encS x.2] 9 true 0) := set_get _ _ _
    have A66 : Acc encI 3 h0.next h66 rs2 (idxs (ps.take i) ++ [x.1]) := A61.chg c66 (fun a ha e => by
      have := r61 a ha
      have : a.block = h57.next + 1 := e
      omega)
    have B66 : Acc encS 9 h0.next h66 ds (datas (ps.take i)) := B61.chg c66 (fun a ha e => by
      have := (Bd.lt a ha).1
      have : a.block = h57.next + 1 := e
      omega)
    obtain ⟨ds2, h67, rb, B67, c67, r67⟩ := Acc.push' B66 (bytes := 16) encS_one x.2 (by simp [datas]; omega) (by decide) (by show h0.next ≤ h61.next; omega)
    have hapart : ∀ a b, rs2.a = some a → ds.a = some b → a.block ≠ b.block := fun a b ha hb e => by
      have := r61 a ha
      have := (Bd.lt b hb).1
      omega
    have A67 : Acc encI 3 h0.next h67 rs2 (idxs (ps.take i) ++ [x.1]) := A66.chg c67 (fun a ha e => by
      obtain ⟨a2, ha2, he⟩ := e
      exact hapart a a2 ha ha2 he)
    have e1 : idxs (ps.take i) ++ [x.1] = idxs (ps.take (i + 1)) := take_map (f := fun z : Prt => z.1) hx
    have e2 : datas (ps.take i) ++ [x.2] = datas (ps.take (i + 1)) := take_map (f := fun z : Prt => z.2) hx
    rw [e1] at A67
    rw [e2] at B67
    have kh61 : Keeps h0 h61 := Chg.beh (kh.trans k60) c61 (fun w hw e => by
      obtain ⟨a2, ha2, rfl⟩ := e
      have := (A.lt a2 ha2).2; omega)
    have kh66 : Keeps h0 h66 := Chg.beh kh61 c66 (fun w hw e => by have : w = h57.next + 1 := e; omega)
    have kh67 : Keeps h0 h67 := beh_acc kh66 B66 c67
    have ap67 : ApartS rs2 ds2 := fun a b ha hb e => by
      have q1 := (A66.lt a ha).1
      have q2 := r67 b hb
      omega
    obtain ⟨h', rs', ds', r, k', A', B'⟩ := pc_l1 K D j bot pa R hps d (i + 1) h67 rs2 ds2 (by omega) kh67 A67 B67 ap67
    refine ⟨h', rs', ds', ?_, k', A', B'⟩
    rw [iterK_s]; simp only [stripe_Plan_pieces_l1b]
    refine ifp (by simp; omega) ?_
    have hst := stL_at (sp := none) hz (n := 2) (cs := enc2 x) rfl rfl rfl (by decide)
    refine bnd i1 (bnd i2 (bnd (dec2 x) (bnd hst ?_)))
    refine bnd (ldI_at hx58 rfl) ?_
    refine bnd (rdS_blk b60) (bnd ra ?_)
    refine bnd (ldS_at hx61 rfl) (gp (sw2 (bnd (ldS_at hx60 rfl) rfl) (bnd (ldS_at hx58 rfl) rfl)) ?_)
    refine bnd (rdS_blk b66) (bnd rb ?_)
    rw [w1 (by omega)]
    exact r
end Gz
namespace Gz
open Go Gx Go.Proofs
theorem PL.cf {h h' : AHeap} {pb f2 B sb fb k m : Nat} (p : PL h pb f2 B sb fb k m) (c : Chg (· = f2) h h') (f : Fld h' f2) : PL h' pb f2 B sb fb k m :=
  p.fs2 ⟨c.nx, fun x hx hb => c.oth x hx hb, f⟩
abbrev pc0T := Option Addr → Slc → Option Addr → Slc → Int → Int → AHeap → Option ((Slc) × AHeap)
theorem pc_l0 {k0 : Nat} (hk0 : 70000 ≤ k0) (j) (bot : pc0T) {hs : AHeap} {pb f2 B sb fb k m : Nat} (p : PL hs pb f2 B sb fb k m) (hk : 0 < k) (hk2 : k ≤ 255) {bb B2 : Nat} {sp : Option Nat} (hsp : spOk sp 1 = true) {ps : List Prt} (hlen : ps.length = k) {n : Nat} (hsz : ∀ x ∈ ps, x.2.size = n) (hn : n ≤ 66000)
    (b1 : hs.get bb = some (.cells (mcell (k : Int) (k : Int) (whole B2 (k * k) sp)) 84 true 0)) (b2 : bb < hs.next) (b3 : bb ≠ f2) (d1 : hs.get B2 = some (outB encI 3 (matN (k * k) (invR k ps)))) (d2 : B2 < hs.next) (d3 : B2 ≠ f2)
    {ds : Slc} (Rd : Row encS hs ds (datas ps)) (nd : ∀ a, ds.a = some a → a.block ≠ f2) :
    ∀ (d i : Nat) (h : AHeap) (o : Slc), i + d = k → Chg (· = f2) hs h → Fld h f2 → Acc encS 9 hs.next h o ((List.range i).map (pieceA k ps)) →
    ∃ h' o', iterK bot (d + 1) (stripe_Plan_pieces_l0b k0 (DD k0) j) (some ⟨pb, 0, none⟩) ds (some ⟨bb, 0, none⟩) o (k : Int) (i : Int) h = j o' h' ∧ Chg (· = f2) hs h' ∧ Fld h' f2 ∧ Acc encS 9 hs.next h' o' (piecesA k ps)
  | 0, i, h, o, hi, c, f, A => by
    obtain rfl : i = k := by omega
    refine ⟨h, o, ?_, c, f, A⟩
    rw [iterK_s]; simp only [stripe_Plan_pieces_l0b]
    exact ifn (by simp) rfl
  | d + 1, i, h, o, hi, c, f, A => by
    have ph := p.cf c f
    have e1 : h.get bb = some (.cells (mcell (k : Int) (k : Int) (whole B2 (k * k) sp)) 84 true 0) := (c.oth _ b2 b3).trans b1
    obtain ⟨h1, r1, k1⟩ := brow_spec k0 (DD k0) ph hk hk2 (B2 := B2) hsp (i := i) (by omega)
    have p1 := ph.keeps k1
    have c1 : Chg (· = f2) hs h1 := c.trans k1.keeps
    have Rd1 : Row encS h1 ds (datas ps) := Rd.chg c1 (fun a ha e => nd a ha e)
    have g1 : h1.get B2 = some (outB encI 3 (matN (k * k) (invR k ps))) := (c1.oth _ d2 d3).trans d1
    have hle : i * k + k ≤ k * k := by have := Nat.mul_le_mul_right k (show i + 1 ≤ k by omega); rw [Nat.succ_mul] at this; exact this
    have Rc := matN_rowR g1 (Nat.lt_of_lt_of_le d2 c1.nx) hle (k * k - i * k) sp
    have dl : (datas ps).length = k := by simp [datas, hlen]
    have rl : (rowI k ps i).length = k := by simp [rowI]
    have mb : ∀ s ∈ datas ps, s.size ≤ 66000 := fun s hs => by
      obtain ⟨x, hx, rfl⟩ := List.mem_map.1 hs
      rw [hsz x hx]; exact hn
    obtain ⟨h2, r2, s2⟩ := fmix_spec (k := k0) (by omega) p1.fld p1.lf Rd1 Rc (fun a ha => nd a ha) (fun a ha => by cases ha; exact d3) (by rw [dl]; omega) (by rw [show ((List.range k).map fun j => ((invR k ps (i * k + j) : Nat) : Int)).length = k from rl]; omega)
      (fun x hx => by have := mb x hx; omega) (by rw [dl]; omega) (by rw [show ((List.range k).map fun j => ((invR k ps (i * k + j) : Nat) : Int)).length = k from rl]; omega) (fun x hx => by have := mb x hx; omega)
    have c2 : Chg (· = f2) hs h2 := c1.trans s2.chg
    have A1 := A.keeps k1
    have hf2 := p.lf
    have A2 : Acc encS 9 hs.next h2 o ((List.range i).map (pieceA k ps)) := A1.chg s2.chg (fun a ha e => by have : a.block = f2 := e; have := (A1.lt a ha).2; omega)
    obtain ⟨o3, h3, ra, A3, c3, _⟩ := A2.push (bytes := 16) encS_one (pieceA k ps i) (by simp; omega) (by decide) c2.nx
    have e2 : (List.range i).map (pieceA k ps) ++ [pieceA k ps i] = (List.range (i + 1)).map (pieceA k ps) := by rw [List.range_succ, List.map_append]; rfl
    rw [e2] at A3
    have c3' : Chg (· = f2) hs h3 := Chg.beh c2 c3 (fun x hx e => by
      obtain ⟨a, ha, rfl⟩ := e
      have := (A2.lt a ha).2; omega)
    have f3 : Fld h3 f2 := fldchg s2.fld (Nat.lt_of_lt_of_le p1.lf s2.nx) c3 (fun e => by
      obtain ⟨a, ha, he⟩ := e
      have := (A2.lt a ha).2; omega)
    obtain ⟨h', o', r, c', f', A'⟩ := pc_l0 hk0 j bot p hk hk2 hsp hlen hsz hn b1 b2 b3 d1 d2 d3 Rd nd d (i + 1) h3 o3 (by omega) c3' f3 A3
    refine ⟨h', o', ?_, c', f', A'⟩
    rw [iterK_s]; simp only [stripe_Plan_pieces_l0b]
    refine ifp (by simp; omega) ?_
    refine bnd rfl (bnd (ldA_at e1 rfl) (bnd rfl ?_))
    refine bnd r1 ?_
    have q2 : ldP (⟨pb, 0 + 2, none⟩ : Addr) h1 = some (some ⟨f2, 0, none⟩) := by simp [ldP, AHeap.rd1, p1.blk, decP]
    have q3 : ldP (⟨pb, 0 + 2, none⟩ : Addr) h = some (some ⟨f2, 0, none⟩) := by simp [ldP, AHeap.rd1, ph.blk, decP]
    refine bnd rfl (bnd q2 (gp (sw1 (bnd q3 rfl)) ?_))
    refine bnd r2 ?_
    refine bnd rdS_one (bnd ra ?_)
    rw [w1 (by omega)]
    exact r
theorem nodup_nat {l : List Int} (h : l.Nodup) (h0 : ∀ x ∈ l, 0 ≤ x) : (l.map Int.toNat).Nodup := by
  unfold List.Nodup at h ⊢
  rw [List.pairwise_map]
  exact h.imp_of_mem fun ha hb hne e => hne (by have := h0 _ ha; have := h0 _ hb; omega)
theorem GoodK.full {k m n : Nat} {ps : List Prt} (hk : 0 < k) (hR : k + m ≤ 255) (g : GoodK k m n ps) : rk k k (pickF k (cauN k) (natOf (idxs ps))) = k ∧ El (k * k) (pickF k (cauN k) (natOf (idxs ps))) ∧ (idxs ps).all (okR (k + m)) = true ∧ (∀ i, i < k → natOf (idxs ps) i < k + m) := by
  have hl : (idxs ps).length = k := by simp [idxs, g.len]
  have hr : ∀ a ∈ idxs ps, 0 ≤ a ∧ a < ((k + m : Nat) : Int) := fun a ha => by
    obtain ⟨x, hx, rfl⟩ := List.mem_map.1 ha
    exact g.rng x hx
  have hw : ∀ i, i < k → ((idxs ps).map Int.toNat)[i]? = some (natOf (idxs ps) i) := fun i hi => by
    obtain ⟨x, hx⟩ := isome (l := idxs ps) (i := i) (by omega)
    simp only [List.getElem?_map, hx, natOf]; rfl
  have hlt : ∀ x ∈ (idxs ps).map Int.toNat, x < k + m := fun x hx => by
    obtain ⟨a, ha, rfl⟩ := List.mem_map.1 hx
    have := hr a ha; omega
  have hwl : ∀ i, i < k → natOf (idxs ps) i < k + m := fun i hi => hlt _ (mem_of (hw i hi))
  refine ⟨any_rows (k := k) (n := k + m) hk hR (by simpa using hl) (nodup_nat g.nd fun a ha => (hr a ha).1) hlt _ hw (by omega), fun t ht => ?_, List.all_eq_true.2 fun a ha => ?_, hwl⟩
  · have hd := (Nat.div_lt_iff_lt_mul hk).2 ht
    exact cauN_El hk (N := (k + m) * k) _ (pos_lt (hwl _ hd) (Nat.mod_lt t hk))
  · have := hr a ha
    unfold okR
    rw [decide_eq_false (by omega), decide_eq_false (by omega)]; rfl
theorem pieces_spec {k0 : Nat} (hk0 : 200000 ≤ k0) {h : AHeap} {pb f2 B sb fb k m n : Nat} (p : PL h pb f2 B sb fb k m) (hk : 0 < k) (hR : k + m ≤ 255) {y : Slc} {ps : List Prt} (R : Row2 h y ps) (g : GoodK k m n ps) (hn : n ≤ 66000) :
    ∃ h' o, stripe_Plan_pieces k0 (DD k0) (some ⟨pb, 0, none⟩) y h = some (o, h') ∧ PL h' pb f2 B sb fb k m ∧ Chg (fun x => x = f2 ∨ x = fb) h h' ∧ Acc encS 9 h.next h' o (piecesA k ps) := by
  simp only [stripe_Plan_pieces]
  obtain ⟨full, hE, hok, _⟩ := g.full hk hR
  have hil : (idxs ps).length = k := by simp [idxs, g.len]
  have hN : (k + m) * k ≤ 65025 := Nat.le_trans (Nat.mul_le_mul hR (show k ≤ 255 by omega)) (by decide)
  have hkk : k * k ≤ 65025 := Nat.le_trans (Nat.mul_le_mul (show k ≤ 255 by omega) (show k ≤ 255 by omega)) (by decide)
  generalize hj5 : (fun (p1 : Option Addr) (rows2 : Slc) (data3 : Slc) (h4 : AHeap) => (p1.bind fun p6 => _ : Option ((Slc) × AHeap))) = j5
  obtain ⟨bot1, e1⟩ := iterK_of (α := pc1T) (fun _ _ _ _ _ _ _ => none) (stripe_Plan_pieces_l1b k0 (DD k0) j5) (show ps.length + 1 ≤ k0 by rw [g.len]; omega)
  obtain ⟨h1, rs, ds, r1, k1, A1, B1⟩ := pc_l1 k0 (DD k0) j5 bot1 (some ⟨pb, 0, none⟩) R (by rw [g.len]; omega) ps.length 0 h ⟨none, 0, 0⟩ ⟨none, 0, 0⟩ (by omega) (Chg.refl _ _) (Acc.nil _ _ _ _) (Acc.nil _ _ _ _) (fun a b ha _ => by cases ha)
  have p1 := p.keeps k1
  have M1 : Mx h1 B ((k + m) * k) (cauN k) := ⟨by rw [← mat_cauN]; exact p1.mat, p1.lb, cauN_El hk⟩
  have I1 : InM h1 (whole B ((k + m) * k)) (matN ((k + m) * k) (cauN k)) := M1.inM rfl
  obtain ⟨h2, X, r2, O2, k2⟩ := mpick_spec hk0 (DD k0) (r := ((k + m : Nat) : Int)) (c := (k : Int)) I1 (by rw [show (matN ((k + m) * k) (cauN k)).length = (k + m) * k from mat_length _ _]; omega) A1.row
  rw [pickP_ok (R := k + m) (C := k) (by omega) hR (by omega) (by omega) (cauN_El hk) (by omega) (by omega) hok, hil] at O2
  obtain ⟨⟨xr, xc, xs⟩, xcode⟩ := X
  have o1 : xr = (k : Int) := O2.r
  have o2 : xc = (k : Int) := O2.c
  have oI : InM h2 xs (matN (k * k) (pickF k (cauN k) (natOf (idxs ps)))) := O2.inm
  have ooff : ∀ a, xs.a = some a → h1.next ≤ a.block := O2.off
  subst o1 o2
  have p2 := p1.keeps k2
  obtain ⟨h11, r4, k4, n4, b4⟩ := mvar (h := h2) (e := 84) (r := (k : Int)) (c := (k : Int)) (s := xs)
  let h12 := h11.resv 1
  have k12 : Keeps h11 h12 := ⟨Nat.le_succ _, fun _ _ _ => rfl⟩
  have b12 : h12.get h2.next = some (.cells (mcell (k : Int) (k : Int) xs) 84 true 0) := b4
  have p12 := p2.keeps (k4.trans k12)
  have n12 : h12.next = h11.next + 1 := rfl
  have hs1 := p1.spc.ls
  have hs2 := p1.spc.lf
  obtain ⟨h17, Y, r17, O17, S17, c17⟩ := inverse_spec hk0 p12.spc (r := (k : Int)) (c := (k : Int)) (oI.keeps (k4.trans k12)) (by rw [show (matN (k * k) (pickF k (cauN k) (natOf (idxs ps)))).length = k * k from mat_length _ _]; omega) (fun a ha => by have := ooff a ha; omega)
  rw [invP_ok (by omega) (by omega) hE, if_pos full] at O17
  obtain ⟨⟨yr, yc, ys⟩, ycode⟩ := Y
  have u1 : yr = (k : Int) := O17.r
  have u2 : yc = (k : Int) := O17.c
  have uI : InM h17 ys (matN (k * k) (invR k ps)) := O17.inm
  have uoff : ∀ a, ys.a = some a → h12.next ≤ a.block := O17.off
  subst u1 u2
  have hEI : El (k * k) (invR k ps) := invU_El hk hE
  obtain ⟨B2, sp, hys, hsp, M17⟩ := uI.mx (by have := Nat.mul_pos hk hk; omega) hEI
  have uB2 : h12.next ≤ B2 := uoff ⟨B2, 0, sp⟩ (by rw [hys]; rfl)
  subst hys
  have hf := p12.lf
  have hgl := p12.spc.lf
  have m4 := k4.nx
  have m17 := c17.nx
  let h18 := h17.set (h11.next + 0) (.cells [.int .i64 0, .int .i64 0, .slice none 0 0] 84 true 0)
  have b18 : h18.get (h11.next + 0) = some (.cells [.int .i64 0, .int .i64 0, .slice none 0 0] 84 true 0) := set_get _ _ _
  let h19 := h18.set (h11.next + 0) (.cells (mcell (k : Int) (k : Int) (whole B2 (k * k) sp)) 84 true 0)
  have b19 : h19.get (h11.next + 0) = some (.cells (mcell (k : Int) (k : Int) (whole B2 (k * k) sp)) 84 true 0) := set_get _ _ _
  have c18 : Chg (· = h11.next) h17 h18 := Chg.set (.inr rfl)
  have c19' : Chg (· = h11.next) h18 h19 := Chg.set (.inr rfl)
  have c19 : Chg (· = h11.next) h17 h19 := c18.trans c19'
  have hpl := p2.lp; have hpf := p2.lf; have hpb := p2.lb; have hps := p2.spc.ls; have hpg := p2.spc.lf
  have p17 : PL h17 pb f2 B sb fb k m := ⟨(c17.oth _ p12.lp p12.n6).trans p12.blk, fldchg p12.fld p12.lf c17 (fun e => p12.n4 e.symm), (c17.oth _ p12.lb p12.n5).trans p12.mat, S17, Nat.lt_of_lt_of_le p12.lp c17.nx, Nat.lt_of_lt_of_le p12.lf c17.nx, Nat.lt_of_lt_of_le p12.lb c17.nx, p.n1, p.n2, p.n3, p.n4, p.n5, p.n6, p.n7, p.n8⟩
  have p19 : PL h19 pb f2 B sb fb k m := p17.chg c19 (fun e => by have : pb = h11.next := e; omega) (fun e => by have : f2 = h11.next := e; omega) (fun e => by have : B = h11.next := e; omega) (fun e => by have : sb = h11.next := e; omega) (fun e => by have : fb = h11.next := e; omega)
  have hB2g : h19.get B2 = some (outB encI 3 (matN (k * k) (invR k ps))) := (c19.oth _ M17.lt (fun e => by have : B2 = h11.next := e; omega)).trans M17.blk
  have hlB2 : B2 < h19.next := Nat.lt_of_lt_of_le M17.lt c19.nx
  have Rd12 : Row encS h12 ds (datas ps) := B1.row.keeps (k2.trans (k4.trans k12))
  have Rd19 : Row encS h19 ds (datas ps) := (Rd12.chg c17 (fun a ha e => by
    have := (B1.lt a ha).2
    have := p.spc.lf
    have : a.block = fb := e
    omega)).chg c19 (fun a ha e => by
    have := (B1.lt a ha).1
    have := k2.nx
    have : a.block = h11.next := e
    omega)
  have hp0f := p.lf
  obtain ⟨bot0, e0⟩ := iterK_of (α := pc0T) (fun _ _ _ _ _ _ _ => none) (stripe_Plan_pieces_l0b k0 (DD k0) fun (out20 : Slc) (h21 : AHeap) => some (out20, h21)) (show k + 1 ≤ k0 by omega)
  obtain ⟨h', o', rf, cf, ff, Af⟩ := pc_l0 (k0 := k0) (by omega) (fun (out20 : Slc) (h21 : AHeap) => some (out20, h21)) bot0 p19 hk (by omega) (bb := h11.next + 0) hsp g.len g.sz hn b19 (by show h11.next < h17.next; omega) (by show h11.next ≠ f2; omega) hB2g hlB2 (by omega) Rd19 (fun a ha e => by
    have := (B1.lt a ha).2
    omega) k 0 h19 ⟨none, 0, 0⟩ (by omega) (Chg.refl _ _) p19.fld (Acc.nil _ _ _ _)
  have K12 : Keeps h h12 := k1.trans (k2.trans (k4.trans k12))
  refine ⟨h', o', ?_, p19.cf cf ff, ?_, ⟨Af.st, fun a ha => ⟨(Af.lt a ha).1, Nat.le_trans (Nat.le_trans K12.nx (Nat.le_trans c17.nx c19.nx)) (Af.lt a ha).2⟩⟩⟩
  · refine jn ?_
    rw [R.len]
    unfold stripe_Plan_pieces_l1
    rw [e1]
    refine r1.trans ?_
    subst hj5
    refine bnd rfl ?_
    have q1 : ldA 3 (⟨pb, 0 + 4, none⟩ : Addr) h1 = some (mcell ((k + m : Nat) : Int) (k : Int) (whole B ((k + m) * k))) := by
      simp only [ldA, AHeap.rdL, p1.blk]; rfl
    refine bnd q1 (bnd rfl (bnd r2 (bnd r4 ?_)))
    have q3 : ldP (⟨pb, 0 + 3, none⟩ : Addr) h12 = some (some ⟨sb, 0, none⟩) := by simp [ldP, AHeap.rd1, p12.blk, decP]
    refine bnd rfl (bnd q3 (bnd (ldA_at b12 rfl) (bnd rfl (bnd r17 ?_))))
    refine bnd (stL_at b18 rfl rfl rfl (by decide)) ?_
    refine jn ?_
    refine bnd rfl (bnd (ldI_at p19.blk rfl) ?_)
    unfold stripe_Plan_pieces_l0
    rw [e0]
    exact rf
  · have a1 : Chg (fun x => x = f2 ∨ x = fb) h h12 := K12.keeps
    have a2 : Chg (fun x => x = f2 ∨ x = fb) h h17 := a1.trans (c17.wk fun x _ e => .inr e)
    have a3 : Chg (fun x => x = f2 ∨ x = fb) h h19 := Chg.beh a2 c19 (fun x hx e => by
      have : x = h11.next := e
      have := (k1.trans (k2.trans k4)).nx
      omega)
    exact a3.trans (cf.wk fun x _ e => .inl e)
end Gz
namespace Gz
open Go Gx Go.Proofs
theorem addL_get {a b : List UInt8} {i : Nat} : (addL a b)[i]? = (a[i]?).bind fun x => (b[i]?).map fun y => x ^^^ y := by
  simp only [addL, List.getElem?_zipWith]
  cases a[i]? <;> cases b[i]? <;> rfl
theorem add_zero (n : Nat) : addL (List.replicate n 0) (List.replicate n 0) = List.replicate n (0 : UInt8) := by
  simp [addL]
theorem head_sz {n : Nat} {ls : List ByteArray} (h : sames n ls = true) (h0 : ls ≠ []) : (ls.headD ⟨#[]⟩).size = n := by
  cases ls with
  | nil => exact absurd rfl h0
  | cons a t => simp only [sames, List.all_cons, Bool.and_eq_true, beq_iff_eq] at h; exact h.1
theorem mixA_ok {n : Nat} {ls : List ByteArray} {cs : List Int} (h : sames n ls = true) (hl : ls.length = cs.length) (hin : cs.all inR = true) : ∃ m, mixA ls cs = (⟨⟨mixL ls cs (List.replicate m 0)⟩⟩, 0) ∧ (ls ≠ [] → m = n) ∧ (ls = [] → m = 0) := by
  refine ⟨(ls.headD ⟨#[]⟩).size, ?_, head_sz h, fun e => by rw [e]; rfl⟩
  unfold mixA
  have : sames (ls.headD ⟨#[]⟩).size ls = true := by
    by_cases e : ls = []
    · subst e; rfl
    · rw [head_sz h e]; exact h
  rw [if_pos hl, if_pos this, if_pos hin]
end Gz
namespace Gz
open Go Gx Go.Proofs Fe
def bv (l : List UInt8) (t : Nat) : Fe := of ((l[t]?.getD 0).toNat)
theorem bv_lt (c : UInt8) : c.toNat < 256 := UInt8.toNat_lt c
theorem bv_add {a b : List UInt8} {t : Nat} (ha : t < a.length) (hb : t < b.length) : bv (addL a b) t = bv a t + bv b t := by
  unfold bv
  rw [addL_get]
  obtain ⟨x, hx⟩ := isome ha
  obtain ⟨y, hy⟩ := isome hb
  simp only [hx, hy, Option.bind_some, Option.map_some, Option.getD_some]
  rw [UInt8.toNat_xor, of_xor (bv_lt x) (bv_lt y)]
theorem bv_scale {c : Nat} (hc : c < 256) {l : List UInt8} {t : Nat} (ht : t < l.length) : bv (scaleL c l) t = of c * bv l t := by
  unfold bv scaleL
  obtain ⟨x, hx⟩ := isome ht
  simp only [List.getElem?_map, hx, Option.map_some, Option.getD_some]
  have hm : mulT x.toNat c < 256 := mulT_lt _ _
  rw [toNat_ofNat, Nat.mod_eq_of_lt hm, of_mul (bv_lt x) hc, Fe.mul_comm]
theorem bv_zero (n t : Nat) : bv (List.replicate n 0) t = 0 := by
  unfold bv
  by_cases h : t < n
  · simp [h]; rfl
  · simp [h]; rfl
theorem bv_inj {a b : List UInt8} (hl : a.length = b.length) (h : ∀ t, t < a.length → bv a t = bv b t) : a = b := by
  apply List.ext_getElem?
  intro t
  by_cases ht : t < a.length
  · obtain ⟨x, hx⟩ := isome ht
    obtain ⟨y, hy⟩ := isome (l := b) (i := t) (by omega)
    have := h t ht
    unfold bv at this
    rw [hx, hy] at this
    have := of_inj (bv_lt x) (bv_lt y) this
    rw [hx, hy, UInt8.toNat_inj.1 this]
  · rw [List.getElem?_eq_none (by omega), List.getElem?_eq_none (by omega)]
theorem sm_shift : ∀ (n : Nat) (f : Nat → Fe), sm (n + 1) f = f 0 + sm n fun i => f (i + 1)
  | 0, f => by show (0 : Fe) + f 0 = f 0 + 0; rw [Fe.zero_add, Fe.add_zero]
  | n + 1, f => by
    rw [sm_s, sm_shift n f, sm_s]
    show f 0 + sm n (fun i => f (i + 1)) + f (n + 1) = f 0 + (sm n (fun i => f (i + 1)) + f (n + 1))
    ac_rfl
theorem mixL_bv {n t : Nat} (ht : t < n) : ∀ (ls : List ByteArray) (cs : List Int) (o : List UInt8), ls.length = cs.length → (∀ s ∈ ls, s.size = n) → (∀ c ∈ cs, 0 ≤ c ∧ c < 256) → o.length = n →
    bv (mixL ls cs o) t = bv o t + sm ls.length fun j => of ((cs[j]?.getD 0).toNat) * bv (bl (ls[j]?.getD ⟨#[]⟩)) t
  | [], cs, o, _, _, _, _ => by show bv o t = bv o t + 0; rw [Fe.add_zero]
  | s :: ls, [], o, h, _, _, _ => by simp at h
  | s :: ls, c :: cs, o, h, hs, hc, ho => by
    have hss : (bl s).length = n := by rw [bl_length]; exact hs s (List.mem_cons_self ..)
    have hcc := hc c (List.mem_cons_self ..)
    have hsc : (scaleL c.toNat (bl s)).length = n := by rw [scaleL_length]; exact hs s (List.mem_cons_self ..)
    have hol : (addL o (scaleL c.toNat (bl s))).length = n := by simp [addL, ho, hsc]
    have ih := mixL_bv ht ls cs (addL o (scaleL c.toNat (bl s))) (by simpa using h) (fun x hx => hs x (List.mem_cons_of_mem _ hx)) (fun x hx => hc x (List.mem_cons_of_mem _ hx)) hol
    show bv (mixL ls cs (addL o (scaleL c.toNat (bl s)))) t = _
    rw [ih, bv_add (by omega) (by omega), bv_scale (by omega) (by omega), List.length_cons, sm_shift]
    simp only [List.getElem?_cons_zero, List.getElem?_cons_succ, Option.getD_some]
    ac_rfl
theorem sames_of {n : Nat} {ls : List ByteArray} (h : ∀ s ∈ ls, s.size = n) : sames n ls = true := List.all_eq_true.2 fun s hs => by simpa using h s hs
theorem inR_of {cs : List Int} (h : ∀ c ∈ cs, 0 ≤ c ∧ c < 256) : cs.all inR = true := List.all_eq_true.2 fun c hc => by
  have := h c hc
  unfold inR
  rw [decide_eq_false (by omega), decide_eq_false (by omega)]; rfl
theorem mix_bv {n : Nat} {ls : List ByteArray} {cs : List Int} (hne : ls ≠ []) (hl : ls.length = cs.length) (hs : ∀ s ∈ ls, s.size = n) (hc : ∀ c ∈ cs, 0 ≤ c ∧ c < 256) :
    (mixA ls cs).2 = 0 ∧ (mixA ls cs).1.size = n ∧ ∀ t, t < n → bv (bl (mixA ls cs).1) t = sm ls.length fun j => of ((cs[j]?.getD 0).toNat) * bv (bl (ls[j]?.getD ⟨#[]⟩)) t := by
  obtain ⟨m, h1, h2⟩ := mixA_ok (sames_of hs) hl (inR_of hc)
  have hm := h2.1 hne
  subst hm
  rw [h1]
  refine ⟨rfl, ?_, fun t ht => ?_⟩
  · rw [size_mk]; exact mixL_length (sames_of hs) (by simp)
  · rw [bl_mk, mixL_bv ht ls cs _ hl hs hc (by simp), bv_zero, Fe.zero_add]
theorem rowC_eq (k i : Nat) : rowC k i = (List.range k).map fun j => ((cauN k (i * k + j) : Nat) : Int) := List.map_congr_left fun _ _ => cau_cast k _
theorem row_range {k : Nat} {f : Nat → Nat} (hf : ∀ j, j < k → f j < 256) : ∀ c ∈ (List.range k).map (fun j => ((f j : Nat) : Int)), 0 ≤ c ∧ c < 256 := fun c hc => by
  obtain ⟨j, hj, rfl⟩ := List.mem_map.1 hc
  have := hf j (List.mem_range.1 hj); omega
theorem range_get {α : Type} {k j : Nat} {f : Nat → α} {d : α} (hj : j < k) : (((List.range k).map f)[j]?).getD d = f j := by simp [hj]
theorem piecesL_ne {k : Nat} (hk : 0 < k) (s : ByteArray) : piecesL k s ≠ [] := fun e => by
  have := congrArg List.length e
  rw [piecesL_length] at this
  have : k = 0 := this
  omega
theorem shard_bv {k m r : Nat} (hk : 0 < k) (hR : k + m ≤ 255) (s : ByteArray) (hr : r < k + m) : (shardB k s r).size = nE k s.size ∧ ∀ t, t < nE k s.size → bv (bl (shardB k s r)) t = sm k fun j => Vw k (cauN k) r j * bv (bl (pieceB k s j)) t := by
  have hE : ∀ j, j < k → cauN k (r * k + j) < 256 := fun j hj => cauN_El hk (N := (k + m) * k) _ (pos_lt hr hj)
  by_cases h : r < k
  · rw [shard_piece s h]
    refine ⟨pieceB_size hk s h, fun t _ => ?_⟩
    rw [sm_congr (g := fun j => dl r j * bv (bl (pieceB k s j)) t) fun j hj => by rw [Vw_cau (by omega) hj (by omega), if_pos h]]
    exact (sm_dl (fun j => bv (bl (pieceB k s j)) t) h).symm
  · have e : shardB k s r = (mixA (piecesL k s) (rowC k r)).1 := by unfold shardB; rw [if_neg h]
    obtain ⟨_, h2, h3⟩ := mix_bv (n := nE k s.size) (ls := piecesL k s) (cs := rowC k r) (piecesL_ne hk s) (by rw [piecesL_length, rowC_length]) (fun x hx => pieces_mem hk hx) (by rw [rowC_eq k r]; exact row_range hE)
    rw [e]
    refine ⟨h2, fun t ht => ?_⟩
    rw [h3 t ht, piecesL_length]
    refine sm_congr fun j hj => ?_
    rw [rowC_eq k r, range_get hj, Int.toNat_natCast]
    congr 2
    unfold piecesL
    rw [range_get hj]
structure OfS (k m : Nat) (s : ByteArray) (ps : List Prt) : Prop where
  good : GoodK k m (nE k s.size) ps
  data : ∀ x ∈ ps, x.2 = shardB k s x.1.toNat
theorem pieceA_eq {k m : Nat} (hk : 0 < k) (hR : k + m ≤ 255) {s : ByteArray} {ps : List Prt} (o : OfS k m s ps) {i : Nat} (hi : i < k) : pieceA k ps i = pieceB k s i := by
  obtain ⟨full, hE, _, hw⟩ := o.good.full hk hR
  have hEI : El (k * k) (invR k ps) := invU_El hk hE
  have I := full_inv hk hE full
  have dl' : (datas ps).length = k := by simp [datas, o.good.len]
  have hrow : ∀ c ∈ rowI k ps i, 0 ≤ c ∧ c < 256 := row_range fun j hj => hEI _ (pos_lt hi hj)
  obtain ⟨_, h2, h3⟩ := mix_bv (n := nE k s.size) (ls := datas ps) (cs := rowI k ps i) (fun e => by rw [e] at dl'; simp at dl'; omega) (by rw [dl']; simp [rowI]) (fun x hx => by
    obtain ⟨y, hy, rfl⟩ := List.mem_map.1 hx
    exact o.good.sz y hy) hrow
  apply bl_inj
  apply bv_inj
  · rw [bl_length, bl_length, pieceB_size hk s hi]; exact h2
  · intro t ht
    rw [bl_length] at ht
    have ht : t < nE k s.size := by rw [← h2]; exact ht
    refine (h3 t ht).trans ?_
    rw [dl']
    let P : Mt := fun l _ => bv (bl (pieceB k s l)) t
    have e1 : sm k (fun j => of (((rowI k ps i)[j]?.getD 0).toNat) * bv (bl ((datas ps)[j]?.getD ⟨#[]⟩)) t) = mm k (Vw k (invR k ps)) (mm k (Vw k (pickF k (cauN k) (natOf (idxs ps)))) P) i 0 := by
      refine sm_congr fun j hj => ?_
      unfold rowI
      rw [range_get hj, Int.toNat_natCast]
      congr 1
      obtain ⟨x, hx⟩ := isome (l := ps) (i := j) (by rw [o.good.len]; exact hj)
      have hd : (datas ps)[j]?.getD ⟨#[]⟩ = shardB k s x.1.toNat := by
        simp only [datas, List.getElem?_map, hx, Option.map_some, Option.getD_some]
        exact o.data x (mem_of hx)
      have hwx : natOf (idxs ps) j = x.1.toNat := by simp [natOf, idxs, hx]
      have hlt := hw j hj
      rw [hwx] at hlt
      rw [hd, (shard_bv hk hR s hlt).2 t ht]
      refine sm_congr fun l hl => ?_
      show _ = Vw k (pickF k (cauN k) (natOf (idxs ps))) j l * bv (bl (pieceB k s l)) t
      unfold Vw
      rw [pickF_at hl, hwx]
    rw [e1, ← mm_assoc]
    have e2 : mm k (mm k (Vw k (invR k ps)) (Vw k (pickF k (cauN k) (natOf (idxs ps))))) P i 0 = mm k dl P i 0 := mm_congr (r := k) (c := 1) I.l (Eqm.refl _ _ _) i 0 hi (by omega)
    rw [e2]
    exact mm_dl (r := k) (c := 1) (Nat.le_refl _) P i 0 hi (by omega)
theorem piecesA_eq {k m : Nat} (hk : 0 < k) (hR : k + m ≤ 255) {s : ByteArray} {ps : List Prt} (o : OfS k m s ps) : piecesA k ps = piecesL k s :=
  List.map_congr_left fun _ hi => pieceA_eq hk hR o (List.mem_range.1 hi)
theorem join_nil : ∀ xs : List (List UInt8), Lib.join xs [] = xs.flatten
  | [] => rfl
  | [x] => by simp [Lib.join, List.intercalate]
  | x :: y :: xs => by
    have := join_nil (y :: xs)
    simp only [Lib.join, List.intercalate] at this ⊢
    rw [show List.intersperse ([] : List UInt8) (x :: y :: xs) = x :: [] :: List.intersperse [] (y :: xs) from rfl, List.flatten_cons, List.flatten_cons, this]
    simp
theorem flat_pieces {k : Nat} (hk : 0 < k) (s : ByteArray) : ((piecesL k s).map fun x => bl x).flatten = padL k s := by
  have hl := padL_length hk s
  have key : ∀ i, i ≤ k → (((List.range i).map (pieceB k s)).map fun x => bl x).flatten = (padL k s).take (i * nE k s.size) := by
    intro i
    induction i with
    | zero => intro _; simp
    | succ i ih =>
      intro hi
      rw [List.range_succ, List.map_append, List.map_append, List.flatten_append, ih (by omega)]
      simp only [List.map_cons, List.map_nil, List.flatten_cons, List.flatten_nil, List.append_nil]
      show _ ++ ((padL k s).take ((i + 1) * nE k s.size)).drop (i * nE k s.size) = _
      have e : (padL k s).take (i * nE k s.size) = ((padL k s).take ((i + 1) * nE k s.size)).take (i * nE k s.size) := by
        rw [List.take_take, Nat.min_eq_left (Nat.mul_le_mul_right _ (by omega))]
      rw [e, List.take_append_drop]
  have := key k (Nat.le_refl _)
  rw [List.take_of_length_le (by rw [hl]; exact Nat.le_refl _)] at this
  exact this
theorem pad_take {k : Nat} (s : ByteArray) : (padL k s).take s.size = bl s := by
  unfold padL
  exact List.take_left' (bl_length s)
end Gz
namespace Gz
open Go Gx Go.Proofs
def shOf (k m : Nat) (data : ByteArray) (i : Nat) : Sh := ((k : Int), (m : Int), (i : Int), (data.size : Int), digB data, shardB k data i)
def txt (k m : Nat) (data : ByteArray) (i : Nat) : ByteArray := ⟨⟨textL (shOf k m data i)⟩⟩
theorem shOf_ok {k m : Nat} (hk : 0 < k) (hR : k + m ≤ 255) {data : ByteArray} (hd : data.size ≤ 65536) {i : Nat} (hi : i < k + m) : chkA (shOf k m data i) = 0 := by
  have hs := (shard_bv hk hR data hi).1
  have e : Int.tdiv ((data.size : Int) + (k : Int) - 1) (k : Int) = ((nE k data.size : Nat) : Int) := by
    have : (data.size : Int) + k - 1 = ((data.size + k - 1 : Nat) : Int) := by omega
    rw [this]; rfl
  unfold chkA shOf
  simp only [hs, e, digB_size]
  rw [if_neg (by omega), if_neg (by omega), if_neg (by omega), if_neg (by omega), if_neg (by omega), if_neg (by omega), if_neg (by omega), if_neg (by omega), if_neg (by simp), if_neg (by simp)]
theorem mk_l0 {k0 : Nat} (hk0 : 70000 ≤ k0) (D : CallF) (bot) {k m : Nat} (hk : 0 < k) (hR : k + m ≤ 255) {data : ByteArray} (hd : data.size ≤ 65536) {h0 : AHeap} {y : Slc} (R : Row encS h0 y (shardsL k m data)) :
    ∀ (d i : Nat) (o : Slc) (h : AHeap), i + d = k + m → Keeps h0 h → Acc encS 9 h0.next h o ((List.range i).map (txt k m data)) →
      Gx.Wp (iterK bot (d + 1) (shard_Make_l0b k0 D fun (out5 : Slc) (h6 : AHeap) => some ((out5, 0), h6)) (k : Int) (m : Int) data (digB data) o y ((k + m : Nat) : Int) (i : Int) h) fun q => q.1.2 = 0 ∧ Keeps h0 q.2 ∧ Acc encS 9 h0.next q.2 q.1.1 ((List.range (k + m)).map (txt k m data)) := fun d => by
  induction d with
  | zero =>
    intro i o h hi kp A
    rw [iterK_s]; simp only [shard_Make_l0b]
    obtain rfl : i = k + m := by omega
    exact Gx.Wp.ifn (by simp) (Gx.Wp.of ⟨rfl, kp, A⟩)
  | succ d ih =>
    intro i o h hi kp A
    rw [iterK_s]; simp only [shard_Make_l0b]
    refine Gx.Wp.ifp (by simp; omega) ?_
    obtain ⟨q, i1, i2⟩ := (R.keeps kp).ldS (shards_get (i := i) data (by omega))
    refine Gx.Wp.bnd i1 (Gx.Wp.bnd i2 ?_)
    obtain ⟨h1, e1, k1⟩ := text_spec (k := k0) hk0 D (shOf k m data i) h (shOf_ok hk hR hd (by omega))
    refine Gx.Wp.bnd e1 ?_
    refine Gx.Wp.bnd rdS_one ?_
    obtain ⟨o2, h2, e2, A2, c2, _⟩ := (A.keeps k1).push (bytes := 16) (fun _ => rfl) (txt k m data i) (by rw [List.length_map, List.length_range]; omega) (by omega) (kp.trans k1).nx
    refine Gx.Wp.bnd e2 ?_
    rw [Gx.w1 (by omega)]
    refine ih (i + 1) o2 h2 (by omega) (Chg.beh (kp.trans k1) c2 fun x hx ⟨a, ha, e⟩ => by have := (A.lt a ha).2; omega) ?_
    rw [List.range_succ, List.map_append]; exact A2
theorem make_spec {k0 : Nat} (hk0 : 70000 ≤ k0) {h : AHeap} (kg : KG 0 h) {k m : Nat} (hk : 0 < k) (hR : k + m ≤ 255) {data : ByteArray} (hd : data.size ≤ 65536) :
    Gx.Wp (shard_Make k0 (DD k0) (k : Int) (m : Int) data h) fun q => q.1.2 = 0 ∧ Keeps h q.2 ∧ Row encS q.2 q.1.1 ((List.range (k + m)).map (txt k m data)) ∧ ∀ a, q.1.1.a = some a → h.next ≤ a.block := by
  simp only [shard_Make]
  obtain ⟨h1, pb, f2, B, sb, fb, r1, p1, k1, a1, a2, a3, a4, a5⟩ := snew_spec (k0 := k0) (by omega) h hk hR
  refine Gx.Wp.bnd r1 (Gx.Wp.ifn (by simp) ?_)
  obtain ⟨h2, ob, r2, b2, o1, o2, p2, c2⟩ := split_spec hk0 p1 hk hR data hd
  have k2 : Keeps h h2 := Chg.beh k1 c2 fun x hx e => by have e : x = f2 := e; omega
  have Rs := shards_row b2 o2
  refine Gx.Wp.bnd r2 (Gx.Wp.ifn (by simp) ?_)
  have k3 : Keeps h2 (h2.new (.cells [.string data] 9 true 0)) := Keeps.new h2 _
  have R3 : Row encS (h2.new (.cells [.string data] 9 true 0)) (⟨some ⟨h2.next, 0, some 0⟩, 1, 1⟩ : Slc) [data] :=
    Row.of_block (enc := encS) (xs := [data]) (b := h2.next) (o := 0) (c := [.string data]) (e := 9) (r := true) (fz := 0) (by simp) (by simp) fun i x hx => by
      match i with
      | 0 => cases hx; rfl
      | i + 1 => simp at hx
  have cl : catL [data] = bl data := by simp [catL]
  refine Gx.Wp.call (sum_spec (k0 := k0) (by omega) (DD k0) (kg.chg (k2.trans k3) fun f => f) R3 (by rw [cl, bl_length]; omega) (by rw [cl, bl_length]; omega) (by simp; omega) (by simp)) fun q ⟨q1, q2⟩ => ?_
  rw [cl] at q1
  obtain ⟨dg, h4⟩ := q
  simp only at q1 q2 ⊢
  subst q1
  refine Gx.Wp.jn fun j hj => ?_
  unfold shard_Make_l0
  obtain ⟨bot, eb⟩ := iterK_of (fun _ _ _ _ _ _ _ _ _ => none) (shard_Make_l0b k0 (DD k0) j) (show (k + m) + 1 ≤ k0 by omega)
  rw [eb]
  subst hj
  have K4 : Keeps h h4 := k2.trans (k3.trans q2)
  refine (mk_l0 hk0 (DD k0) bot hk hR hd (h0 := h4) (Rs.keeps (k3.trans q2)) (k + m) 0 ⟨none, 0, 0⟩ h4 (by omega) (Chg.refl _ _) (Acc.nil _ _ _ _)).mono ?_
  rintro r ⟨z1, z2, z3⟩
  exact ⟨z1, K4.trans z2, z3.row, fun a ha => by have := (z3.lt a ha).2; have := K4.nx; omega⟩
end Gz
namespace Gz
open Go Gx Go.Proofs
theorem unl_good {k m n : Nat} : ∀ (ps out : List Prt), (unl k m (n : Int) ps out).2 = 0 → (idxs out).Nodup → (∀ x ∈ out, (0 ≤ x.1 ∧ x.1 < ((k + m : Nat) : Int)) ∧ x.2.size = n) → out.length ≤ k →
    (idxs (unl k m (n : Int) ps out).1).Nodup ∧ (∀ x ∈ (unl k m (n : Int) ps out).1, (0 ≤ x.1 ∧ x.1 < ((k + m : Nat) : Int)) ∧ x.2.size = n) ∧ (unl k m (n : Int) ps out).1.length ≤ k
  | [], out, _, h1, h2, h3 => ⟨h1, h2, h3⟩
  | x :: ps, out, h, h1, h2, h3 => by
    simp only [unl] at h ⊢
    by_cases g : goodP k m (n : Int) x = 0
    · rw [if_neg (by simpa using g)] at h ⊢
      have hx : (0 ≤ x.1 ∧ x.1 < ((k + m : Nat) : Int)) ∧ x.2.size = n := by
        unfold goodP at g
        by_cases c1 : 0 ≤ x.1 ∧ x.1 < ((k + m : Nat) : Int)
        · rw [if_neg (by simpa using c1)] at g
          by_cases c2 : (x.2.size : Int) = (n : Int)
          · exact ⟨c1, by omega⟩
          · rw [if_pos c2] at g; cases g
        · rw [if_pos c1] at g; cases g
      by_cases t : x.1 ∉ idxs out ∧ out.length < k
      · have ht : takeP k out x = out ++ [x] := by unfold takeP; rw [if_pos t]
        rw [ht] at h ⊢
        refine unl_good ps (out ++ [x]) h ?_ ?_ (by simp; omega)
        · unfold idxs at t h1 ⊢
          rw [List.map_append, List.nodup_append]
          refine ⟨h1, by simp, fun a ha b hb e => ?_⟩
          simp at hb
          subst hb; subst e
          exact t.1 ha
        · intro y hy
          rcases List.mem_append.1 hy with hy | hy
          · exact h2 y hy
          · simp at hy; subst hy; exact hx
      · have ht : takeP k out x = out := by unfold takeP; rw [if_neg t]
        rw [ht] at h ⊢
        exact unl_good ps out h h1 h2 h3
    · rw [if_pos (by simpa using g)] at h
      exact absurd h g
theorem unlA_good {k m : Nat} (hk : 0 < k) {ps : List Prt} {long : Int} (h : (unlA k m ps long).2 = 0) (hl : ¬ (unlA k m ps long).1.length < k) : (0 ≤ long ∧ long ≤ 65536) ∧ GoodK k m (nE k long.toNat) (unlA k m ps long).1 := by
  unfold unlA at h hl ⊢
  by_cases c : (eachA k long).2 = 0
  · rw [if_neg (by simpa using c)] at h hl ⊢
    have hr : 0 ≤ long ∧ long ≤ 65536 := by
      unfold eachA at c
      split at c
      · cases c
      · omega
    obtain ⟨L, rfl⟩ : ∃ L : Nat, long = L := ⟨long.toNat, by omega⟩
    have e := eachA_nat hk (L := L) (by omega)
    rw [e] at h hl ⊢
    obtain ⟨q1, q2, q3⟩ := unl_good ps [] h (by simp [idxs]) (fun x hx => by cases hx) (by simp)
    refine ⟨hr, ⟨by simp only at hl q3 ⊢; omega, q1, fun x hx => (q2 x hx).1, fun x hx => ?_⟩⟩
    rw [Int.toNat_natCast]; exact (q2 x hx).2
  · rw [if_pos (by simpa using c)] at h
    exact absurd h c
theorem pieceA_size {k m n : Nat} (hk : 0 < k) (hR : k + m ≤ 255) {ps : List Prt} (g : GoodK k m n ps) {i : Nat} (hi : i < k) : (pieceA k ps i).size = n := by
  obtain ⟨_, hE, _, _⟩ := g.full hk hR
  have hEI : El (k * k) (invR k ps) := invU_El hk hE
  have dl' : (datas ps).length = k := by simp [datas, g.len]
  have hrow : ∀ c ∈ rowI k ps i, 0 ≤ c ∧ c < 256 := row_range fun j hj => hEI _ (pos_lt hi hj)
  exact (mix_bv (n := n) (ls := datas ps) (cs := rowI k ps i) (fun e => by rw [e] at dl'; simp at dl'; omega) (by rw [dl']; simp [rowI]) (fun x hx => by
    obtain ⟨y, hy, rfl⟩ := List.mem_map.1 hx
    exact g.sz y hy) hrow).2.1
theorem flat_size {n : Nat} : ∀ (xs : List ByteArray), (∀ x ∈ xs, x.size = n) → ((xs.map fun x => bl x).flatten).length = xs.length * n
  | [], _ => by simp
  | x :: xs, h => by
    rw [List.map_cons, List.flatten_cons, List.length_append, flat_size xs fun y hy => h y (List.mem_cons_of_mem _ hy), bl_length, h x (List.mem_cons_self ..), List.length_cons, Nat.add_mul, Nat.one_mul, Nat.add_comm]
def flatB (xs : List ByteArray) : List UInt8 := (xs.map fun x => bl x).flatten
theorem join_flat (xs : List ByteArray) : joinB xs ⟨#[]⟩ = ⟨⟨flatB xs⟩⟩ := by
  unfold joinB
  have e : (⟨#[]⟩ : ByteArray).data.toList = [] := rfl
  rw [e, join_nil]; rfl
def cutA (k : Nat) (ps : List Prt) (long : Int) : ByteArray := ⟨⟨(flatB (piecesA k ps)).take long.toNat⟩⟩
theorem joined {k m : Nat} (hk : 0 < k) (hR : k + m ≤ 255) {ps : List Prt} {long : Int} (hl : 0 ≤ long ∧ long ≤ 65536) (g : GoodK k m (nE k long.toNat) ps) {h : AHeap} {base : Nat} {o : Slc} (A : Acc encS 9 base h o (piecesA k ps)) :
    joinA o (⟨#[]⟩ : ByteArray) h = some ⟨⟨flatB (piecesA k ps)⟩⟩ ∧ Gx.subS (⟨⟨flatB (piecesA k ps)⟩⟩ : ByteArray) none (some long) = some (cutA k ps long) ∧ (cutA k ps long).size = long.toNat := by
  have pl : (piecesA k ps).length = k := by simp [piecesA]
  have fl : (flatB (piecesA k ps)).length = k * nE k long.toNat := by
    have := flat_size (n := nE k long.toNat) (piecesA k ps) (fun x hx => by
      obtain ⟨i, hi, rfl⟩ := List.mem_map.1 hx
      exact pieceA_size hk hR g (List.mem_range.1 hi))
    rw [pl] at this; exact this
  have hge := nE_ge hk long.toNat
  have hle := nE_le hk long.toNat
  have hsz : (⟨⟨flatB (piecesA k ps)⟩⟩ : ByteArray).size = k * nE k long.toNat := by rw [size_mk, fl]
  refine ⟨?_, ?_, ?_⟩
  · rcases A.st with ⟨_, h2⟩ | ⟨b, G⟩
    · rw [h2] at pl; simp at pl; omega
    · rw [G.s]
      have hr := rdL_all G.blk
      rw [List.length_map, pl] at hr
      unfold joinA
      simp only [pl]
      have e1 : unstrs ((piecesA k ps).map encS) = some (piecesA k ps) := unstrs_map _
      rw [hr]
      simp only [Option.bind_some, e1]
      rw [join_flat, if_pos ⟨by omega, by omega, by omega, by rw [hsz]; omega⟩]
  · have := subS_of (s := (⟨⟨flatB (piecesA k ps)⟩⟩ : ByteArray)) (lo := none) (hi := some long) (i := 0) (j := long.toNat) (by simp; omega) rfl (by omega) (by rw [hsz]; exact hge)
    rw [this, List.drop_zero]; rfl
  · unfold cutA
    rw [size_mk, List.length_take, fl, Nat.min_eq_left hge]
def joinP (k m : Nat) (ps : List Prt) (long : Int) : ByteArray × Int :=
  if (unlA k m ps long).2 ≠ 0 then (⟨#[]⟩, (unlA k m ps long).2) else if (unlA k m ps long).1.length < k then (⟨#[]⟩, 50) else (cutA k (unlA k m ps long).1 long, 0)
theorem sjoin_spec {k0 : Nat} (hk0 : 200000 ≤ k0) {h : AHeap} {pb f2 B sb fb k m : Nat} (p : PL h pb f2 B sb fb k m) (hk : 0 < k) (hR : k + m ≤ 255) {y : Slc} {ps : List Prt} (R : Row2 h y ps) (hps : ps.length ≤ 100000) (long : Int) :
    ∃ h', stripe_Plan_Join k0 (DD k0) (some ⟨pb, 0, none⟩) y long h = some (joinP k m ps long, h') ∧ PL h' pb f2 B sb fb k m ∧ Chg (fun x => x = f2 ∨ x = fb) h h' := by
  simp only [stripe_Plan_Join]
  obtain ⟨h1, o, r1, k1, A1⟩ := unlike_spec (k0 := k0) (DD k0) p hk hR R (by omega) (by omega) long
  have p1 := p.keeps k1
  unfold joinP
  by_cases c : (unlA k m ps long).2 = 0
  · rw [if_neg (by simpa using c)]
    by_cases c2 : (unlA k m ps long).1.length < k
    · rw [if_pos c2]
      refine ⟨h1, ?_, p1, k1.keeps⟩
      refine bnd r1 ?_
      refine ifn (by simpa using c) ?_
      refine bnd rfl (bnd (ldI_at p1.blk rfl) ?_)
      exact ifp (by rw [A1.len]; simpa using c2) rfl
    · rw [if_neg c2]
      obtain ⟨hl, g⟩ := unlA_good hk c c2
      have hle := nE_le hk long.toNat
      have hn2 : nE k long.toNat ≤ k * nE k long.toNat := Nat.le_mul_of_pos_left _ hk
      obtain ⟨h2, o2, r2, p2, c3, A2⟩ := pieces_spec hk0 p1 hk hR A1.row g (by omega)
      obtain ⟨j1, j2, _⟩ := joined hk hR hl g A2
      refine ⟨h2, ?_, p2, k1.keeps.trans c3⟩
      refine bnd r1 ?_
      refine ifn (by simpa using c) ?_
      refine bnd rfl (bnd (ldI_at p1.blk rfl) ?_)
      refine ifn (by rw [A1.len]; simp; omega) ?_
      exact bnd r2 (bnd j1 (bnd j2 rfl))
  · rw [if_pos (by simpa using c)]
    refine ⟨h1, ?_, p1, k1.keeps⟩
    refine bnd r1 ?_
    exact ifp (by simpa using c) rfl
end Gz
namespace Gz
open Go Gx Go.Proofs
def fitsA (x y : Sh) : Bool := (x.1 == y.1) && (x.2.1 == y.2.1) && (x.2.2.2.1 == y.2.2.2.1) && (x.2.2.2.2.1 == y.2.2.2.2.1)
theorem shC_len (x : Sh) : (shC x).length = 6 := rfl
theorem fits_spec (k0 : Nat) (D : CallF) (x y : Sh) (h : AHeap) : ∃ h', shard_Fits k0 D x y h = some (fitsA x y, h') ∧ Keeps h h' := by
  simp only [shard_Fits]
  let h1 := h.new (.cells (shC x) 33 true 0)
  let h2 := h1.new (.cells (shC y) 33 true 0)
  have n1 : h1.next = h.next + 1 := rfl
  have k2 : Keeps h h2 := (Keeps.new h _).trans (Keeps.new h1 _)
  have g1 : h2.get h.next = some (.cells (shC x) 33 true 0) := ((Keeps.new h1 _).oth _ (by omega) (fun f => f)).trans (by simp [h1])
  have g2 : h2.get h1.next = some (.cells (shC y) 33 true 0) := by simp [h2]
  have s1 : st1 ⟨h.next, 2, none⟩ (.int .i64 y.2.2.1) h2 = some (h2.set h.next (.cells ((shC x).set 2 (.int .i64 y.2.2.1)) 33 true 0)) := st1_of g1 (by rw [shC_len]; decide) rfl
  obtain ⟨h3, e3⟩ : ∃ h3, h3 = h2.set h.next (.cells ((shC x).set 2 (.int .i64 y.2.2.1)) 33 true 0) := ⟨_, rfl⟩
  have g3 : h3.get h1.next = some (.cells (shC y) 33 true 0) := by rw [e3, AHeap.get_set, if_neg (by omega)]; exact g2
  have g3x : h3.get h.next = some (.cells ((shC x).set 2 (.int .i64 y.2.2.1)) 33 true 0) := by rw [e3]; exact sset_get _ _ _
  have s2 : st1 ⟨h.next, 5, none⟩ (.string y.2.2.2.2.2) h3 = some (h3.set h.next (.cells (((shC x).set 2 (.int .i64 y.2.2.1)).set 5 (.string y.2.2.2.2.2)) 33 true 0)) := st1_of g3x (by simp [shC]) rfl
  obtain ⟨h4, e4⟩ : ∃ h4, h4 = h3.set h.next (.cells (((shC x).set 2 (.int .i64 y.2.2.1)).set 5 (.string y.2.2.2.2.2)) 33 true 0) := ⟨_, rfl⟩
  have g4 : h4.get h1.next = some (.cells (shC y) 33 true 0) := by rw [e4, AHeap.get_set, if_neg (by omega)]; exact g3
  have g4x : h4.get h.next = some (.cells (shC (x.1, x.2.1, y.2.2.1, x.2.2.2.1, x.2.2.2.2.1, y.2.2.2.2.2)) 33 true 0) := by rw [e4]; exact sset_get _ _ _
  refine ⟨h4, ?_, ?_⟩
  · refine bnd (sldI_at g2 (show (shC y)[2]? = some (.int .i64 y.2.2.1) from rfl)) (bnd s1 ?_)
    rw [← e3]
    refine bnd (ldS_at g3 (show (shC y)[5]? = some (.string y.2.2.2.2.2) from rfl)) (gp (ssw1 (by show (ldS ⟨h1.next, 5, none⟩ h2).bind _ = _; rw [ldS_at g2 (show (shC y)[5]? = some (.string y.2.2.2.2.2) from rfl)]; rfl)) (bnd s2 ?_))
    rw [← e4]
    refine bnd (sldA_at g4x rfl) (bnd rfl (bnd (sldA_at g4 rfl) (bnd rfl ?_)))
    congr 2
    simp only [fitsA, ba_beq, beq_self_eq_true, decide_true, Bool.true_and, Bool.and_true]
    simp [Bool.and_assoc]
  · rw [e4]
    refine Keeps.set ?_ (Nat.le_refl _)
    rw [e3]
    exact Keeps.set k2 (Nat.le_refl _)
def partOf (x : Sh) : Prt := (x.2.2.1, x.2.2.2.2.2)
def okB (l0 x : Sh) : Bool := decide (chkA x = 0) && fitsA l0 x
def joinS (l0 : Sh) (xs : List Sh) : ByteArray × Int := joinP l0.1.toNat l0.2.1.toNat (xs.map partOf) l0.2.2.2.1
def gatherP (xs : List Sh) : ByteArray × Int :=
  match xs with
  | [] => (⟨#[]⟩, 4)
  | l0 :: _ => if xs.all (okB l0) = true then (if (joinS l0 xs).2 ≠ 0 then (⟨#[]⟩, (joinS l0 xs).2) else if digB (joinS l0 xs).1 = l0.2.2.2.2.1 then ((joinS l0 xs).1, 0) else (⟨#[]⟩, 60)) else (⟨#[]⟩, 4)
theorem gt_l0 {k0 : Nat} (D : CallF) (j) (bot) {Q : (ByteArray × Int) × AHeap → Prop} {h0 : AHeap} {y : Slc} {l0 : Sh} {xs : List Sh} (R : RowW 6 shC h0 y xs) (hx : xs.length ≤ 1000) (h00 : xs[0]? = some l0)
    (bad : ∀ h, Keeps h0 h → xs.all (okB l0) = false → Q ((⟨#[]⟩, 4), h))
    (hj : ∀ h o, Keeps h0 h → xs.all (okB l0) = true → Acc2 h0.next h o (xs.map partOf) → Gx.Wp (j y o h) Q) :
    ∀ (d i : Nat) (o : Slc) (h : AHeap), i + d = xs.length → Keeps h0 h → (xs.take i).all (okB l0) = true → Acc2 h0.next h o ((xs.take i).map partOf) →
      Gx.Wp (iterK bot (d + 1) (shard_Gather_l0b k0 D j) y o y (xs.length : Int) (i : Int) h) Q := fun d => by
  induction d with
  | zero =>
    intro i o h hi kp hall A
    rw [iterK_s]; simp only [shard_Gather_l0b]
    obtain rfl : i = xs.length := by omega
    rw [List.take_length] at hall A
    exact Gx.Wp.ifn (by simp) (hj h o kp hall A)
  | succ d ih =>
    intro i o h hi kp hall A
    rw [iterK_s]; simp only [shard_Gather_l0b]
    refine Gx.Wp.ifp (by simp; omega) ?_
    obtain ⟨x, hxi⟩ := isome (l := xs) (i := i) (by omega)
    obtain ⟨q, i1, i2, _, _⟩ := (R.keeps kp).ld shC_len (by decide) hxi
    refine Gx.Wp.bnd i1 (Gx.Wp.bnd i2 (Gx.Wp.bnd (sh_dec x) ?_))
    let h1 := h.new (.cells (shC zSh) 33 true 0)
    have g1 : h1.get h.next = some (.cells (shC zSh) 33 true 0) := by simp [h1]
    have s1 := sstL_at (sp := none) (cs := shC x) g1 rfl rfl (shC_one _) (by decide)
    refine Gx.Wp.bnd s1 ?_
    obtain ⟨h2, e2⟩ : ∃ h2, h2 = h1.set h.next (.cells (shC x) 33 true 0) := ⟨_, rfl⟩
    rw [← e2]
    have k2 : Keeps h h2 := by rw [e2]; exact Keeps.set (Keeps.new h _) (Nat.le_refl _)
    have g2 : h2.get h.next = some (.cells (shC x) 33 true 0) := by rw [e2]; exact sset_get _ _ _
    have l2 : h.next < h2.next := by rw [e2]; show h.next < h.next + 1; omega
    have allF : okB l0 x = false → xs.all (okB l0) = false := fun hf => by
      cases ha : xs.all (okB l0) with
      | false => rfl
      | true =>
        rw [List.all_eq_true] at ha
        rw [ha x (mem_of hxi)] at hf
        exact hf
    refine Gx.Wp.jn fun j2 hj2 => ?_
    have badR : ∀ {g : AHeap}, Keeps h0 g → okB l0 x = false → Gx.Wp (j2 y o (some ⟨h.next, 0, none⟩) y (xs.length : Int) (i : Int) true g) Q := fun kg hf => by
      subst hj2
      exact Gx.Wp.ifp rfl (Gx.Wp.of (bad _ kg (allF hf)))
    refine Gx.Wp.bnd (sldA_at g2 rfl) (Gx.Wp.bnd (sh_dec x) (Gx.Wp.bnd (check_spec k0 D x h2) ?_))
    have k3 : Keeps h2 (h2.new (.cells (shC x) 33 true 0)) := Keeps.new h2 _
    by_cases c : chkA x = 0
    · refine Gx.Wp.ifn (by simpa using c) ?_
      obtain ⟨q0, i3, i4, _, _⟩ := ((R.keeps kp).keeps (k2.trans k3)).ld shC_len (by decide) h00
      have g3 : (h2.new (.cells (shC x) 33 true 0)).get h.next = some (.cells (shC x) 33 true 0) := (k3.oth _ l2 (fun f => f)).trans g2
      obtain ⟨h4, e4, k4⟩ := fits_spec k0 D l0 x (h2.new (.cells (shC x) 33 true 0))
      refine Gx.Wp.bnd i3 (Gx.Wp.bnd i4 (Gx.Wp.bnd (sh_dec l0) (Gx.Wp.bnd (sldA_at g3 rfl) (Gx.Wp.bnd (sh_dec x) (Gx.Wp.bnd e4 ?_)))))
      have K4 : Keeps h h4 := k2.trans (k3.trans k4)
      have g4 : h4.get h.next = some (.cells (shC x) 33 true 0) := (k4.oth _ (Nat.lt_of_lt_of_le l2 k3.nx) (fun f => f)).trans g3
      cases hf : fitsA l0 x with
      | false => exact badR (kp.trans K4) (by unfold okB; rw [hf, Bool.and_false])
      | true =>
        subst hj2
        refine Gx.Wp.ifn (by simp) ?_
        refine Gx.Wp.bnd rfl (Gx.Wp.bnd (sldI_at g4 (show (shC x)[2]? = some (.int .i64 x.2.2.1) from rfl)) (Gx.Wp.bnd rfl (Gx.Wp.bnd (ldS_at g4 (show (shC x)[5]? = some (.string x.2.2.2.2.2) from rfl)) ?_)))
        refine Gx.Wp.bnd (rdS_two (x := partOf x)) ?_
        have A4 := A.keeps K4
        have k5 : Keeps h4 (h4.new (.cells (enc2 (partOf x)) 61 true 0)) := Keeps.new h4 _
        obtain ⟨o2, h6, a1, A6, c6⟩ := (A4.keeps k5).push (partOf x) (by rw [List.length_map, List.length_take]; omega) (Nat.le_trans (kp.trans K4).nx k5.nx)
        refine Gx.Wp.bnd a1 ?_
        rw [Gx.w1 (by omega)]
        refine ih (i + 1) o2 h6 (by omega) (beh_acc2 (kp.trans (K4.trans k5)) (A4.keeps k5) c6) ?_ ?_
        · rw [List.take_add_one, hxi, List.all_append, hall]
          simp [okB, c, hf]
        · rw [List.take_add_one, hxi, List.map_append]; exact A6
    · refine Gx.Wp.ifp (by simpa using c) ?_
      exact badR (kp.trans (k2.trans k3)) (by unfold okB; rw [decide_eq_false c]; rfl)
theorem joinP_size {k m : Nat} (hk : 0 < k) (hR : k + m ≤ 255) {ps : List Prt} {long : Int} (h : (joinP k m ps long).2 = 0) : (joinP k m ps long).1.size = long.toNat ∧ 0 ≤ long ∧ long ≤ 65536 := by
  unfold joinP at h ⊢
  split at h
  · rename_i c; exact absurd h c
  · rename_i c
    split at h
    · cases h
    · rename_i c2
      rw [if_neg c, if_neg c2]
      obtain ⟨hl, g⟩ := unlA_good hk (by simpa using c) c2
      refine ⟨?_, hl⟩
      unfold cutA
      have pl : (piecesA k (unlA k m ps long).1).length = k := by simp [piecesA]
      have fl : (flatB (piecesA k (unlA k m ps long).1)).length = k * nE k long.toNat := by
        have := flat_size (n := nE k long.toNat) (piecesA k (unlA k m ps long).1) (fun x hx => by
          obtain ⟨i, hi, rfl⟩ := List.mem_map.1 hx
          exact pieceA_size hk hR g (List.mem_range.1 hi))
        rw [pl] at this; exact this
      rw [size_mk, List.length_take, fl, Nat.min_eq_left (nE_ge hk _)]
theorem gather_spec {k0 : Nat} (hk0 : 200000 ≤ k0) {h : AHeap} (kg : KG 0 h) {y : Slc} {xs : List Sh} (R : RowW 6 shC h y xs) (hx : xs.length ≤ 1000) :
    Gx.Wp (shard_Gather k0 (DD k0) y h) fun q => q.1 = gatherP xs ∧ Keeps h q.2 := by
  simp only [shard_Gather]
  have hl := R.len
  cases xs with
  | nil =>
    exact Gx.Wp.ifp (by rw [hl]; rfl) (Gx.Wp.of ⟨rfl, Chg.refl _ _⟩)
  | cons l0 xs =>
    refine Gx.Wp.ifn (by rw [hl]; simp; omega) ?_
    refine Gx.Wp.jn fun j hj => ?_
    unfold shard_Gather_l0
    obtain ⟨bot, eb⟩ := iterK_of (fun _ _ _ _ _ _ => none) (shard_Gather_l0b k0 (DD k0) j) (show (l0 :: xs).length + 1 ≤ k0 by omega)
    rw [eb, hl]
    refine gt_l0 (DD k0) j bot (Q := fun q => q.1 = gatherP (l0 :: xs) ∧ Keeps h q.2) (l0 := l0) R hx rfl (fun g kp hf => ⟨by unfold gatherP; simp only [hf]; rfl, kp⟩) ?_ (l0 :: xs).length 0 ⟨none, 0, 0⟩ h (by omega) (Chg.refl _ _) rfl (Acc2.nil _ _)
    · intro g o kp hall A
      subst hj
      dsimp only
      have hok0 : okB l0 l0 = true := List.all_eq_true.1 hall l0 (List.mem_cons_self ..)
      have hc0 : chkA l0 = 0 := by
        unfold okB at hok0
        simp only [Bool.and_eq_true, decide_eq_true_eq] at hok0
        exact hok0.1
      obtain ⟨c1, c2, _, c4, c5, _⟩ := chk_facts hc0
      obtain ⟨k, hk⟩ : ∃ k : Nat, l0.1 = (k : Int) := ⟨l0.1.toNat, by omega⟩
      obtain ⟨m, hm⟩ : ∃ m : Nat, l0.2.1 = (m : Int) := ⟨l0.2.1.toNat, by omega⟩
      have hR : k + m ≤ 255 := by omega
      have hk0' : 0 < k := by omega
      obtain ⟨q0, i1, i2, i3, i4⟩ := (R.keeps kp).ld shC_len (by decide) (show (l0 :: xs)[0]? = some l0 from rfl)
      refine Gx.Wp.bnd i1 (Gx.Wp.bnd (i3 0 .i64 l0.1 rfl) (Gx.Wp.bnd i1 (Gx.Wp.bnd (i3 1 .i64 l0.2.1 rfl) ?_)))
      rw [hk, hm]
      obtain ⟨h1, pb, f2, B, sb, fb, r1, p1, k1, a1, a2, a3, a4, a5⟩ := snew_spec (k0 := k0) (by omega) g hk0' hR
      refine Gx.Wp.bnd r1 (Gx.Wp.ifn (by simp) ?_)
      obtain ⟨q1, u1, u2, u3, u4⟩ := (R.keeps (kp.trans k1)).ld shC_len (by decide) (show (l0 :: xs)[0]? = some l0 from rfl)
      refine Gx.Wp.bnd u1 (Gx.Wp.bnd (u3 3 .i64 l0.2.2.2.1 rfl) ?_)
      obtain ⟨h2, r2, p2, c2'⟩ := sjoin_spec hk0 p1 hk0' hR (A.keeps k1).row (by rw [List.length_map]; omega) l0.2.2.2.1
      have k2 : Keeps g h2 := Chg.beh k1 c2' fun x hx e => by rcases e with e | e <;> omega
      refine Gx.Wp.bnd r2 ?_
      have ej : joinS l0 (l0 :: xs) = joinP k m ((l0 :: xs).map partOf) l0.2.2.2.1 := by unfold joinS; rw [hk, hm]; rfl
      have gp1 : ∀ v, (if (joinS l0 (l0 :: xs)).2 ≠ 0 then (⟨#[]⟩, (joinS l0 (l0 :: xs)).2) else if digB (joinS l0 (l0 :: xs)).1 = l0.2.2.2.2.1 then ((joinS l0 (l0 :: xs)).1, 0) else (⟨#[]⟩, 60)) = v → gatherP (l0 :: xs) = v := fun v hv => by
        unfold gatherP
        simp only [hall, if_true]
        exact hv
      by_cases cj : (joinP k m ((l0 :: xs).map partOf) l0.2.2.2.1).2 = 0
      · refine Gx.Wp.ifn (by simpa using cj) ?_
        obtain ⟨sz, _, sz3⟩ := joinP_size hk0' hR cj
        obtain ⟨sv, hsv⟩ : ∃ sv, sv = (joinP k m ((l0 :: xs).map partOf) l0.2.2.2.1).1 := ⟨_, rfl⟩
        rw [← hsv] at sz
        simp only
        rw [← hsv]
        have k3 : Keeps h2 (h2.new (.cells [.string sv] 9 true 0)) := Keeps.new h2 _
        have R3 : Row encS (h2.new (.cells [.string sv] 9 true 0)) (⟨some ⟨h2.next, 0, some 0⟩, 1, 1⟩ : Slc) [sv] :=
          Row.of_block (enc := encS) (xs := [sv]) (b := h2.next) (o := 0) (c := [.string sv]) (e := 9) (r := true) (fz := 0) (by simp) (by simp) fun i x hx => by
            match i with
            | 0 => cases hx; rfl
            | i + 1 => simp at hx
        have cl : catL [sv] = bl sv := by simp [catL]
        refine Gx.Wp.call (sum_spec (k0 := k0) (by omega) (DD k0) (kg.chg (kp.trans (k2.trans k3)) fun f => f) R3 (by rw [cl, bl_length]; omega) (by rw [cl, bl_length]; omega) (by simp; omega) (by simp)) fun q ⟨z1, z2⟩ => ?_
        rw [cl] at z1
        obtain ⟨dg, h4⟩ := q
        simp only at z1 z2 ⊢
        subst z1
        have RR : ∀ {g' : AHeap}, Keeps h g' → ∃ q, idxL 6 y (0 : Int) = some q ∧ ldS ⟨q.block, q.off + 4, none⟩ g' = some l0.2.2.2.2.1 := fun kk => by
          obtain ⟨q, v1, _, _, v4⟩ := (R.keeps kk).ld shC_len (by decide) (show (l0 :: xs)[0]? = some l0 from rfl)
          exact ⟨q, v1, v4 4 _ rfl⟩
        obtain ⟨q4, v1, v2⟩ := RR (kp.trans (k2.trans (k3.trans z2)))
        obtain ⟨q4', v1', v2'⟩ := RR (kp.trans (k2.trans k3))
        obtain ⟨q4'', v1'', v2''⟩ := RR (kp.trans k2)
        rw [v1] at v1' v1''
        cases v1'; cases v1''
        refine Gx.Wp.bnd v1 (Gx.Wp.bnd v2 (Gx.Wp.gp (sw2 (by rw [v2']; rfl) (by rw [v2'']; rfl)) ?_))
        have hdig : (⟨⟨digest (bl sv)⟩⟩ : ByteArray) = digB sv := rfl
        rw [hdig]
        have fin : Keeps h h4 := kp.trans (k2.trans (k3.trans z2))
        by_cases cd : digB sv = l0.2.2.2.2.1
        · refine Gx.Wp.ifn (by simp [ba_beq, cd]) (Gx.Wp.of ⟨?_, fin⟩)
          symm
          apply gp1
          rw [ej, if_neg (by simpa using cj), ← hsv, if_pos cd]
        · refine Gx.Wp.ifp (by simp [ba_beq, cd]) (Gx.Wp.of ⟨?_, fin⟩)
          symm
          apply gp1
          rw [ej, if_neg (by simpa using cj), ← hsv, if_neg cd]
      · refine Gx.Wp.ifp (by simpa using cj) (Gx.Wp.of ⟨?_, kp.trans k2⟩)
        symm
        apply gp1
        rw [ej, if_pos (by simpa using cj)]
end Gz
namespace Gz
open Go Gx Go.Proofs
def Wp {R : Type} (x : Option R) (Q : R → Prop) : Prop := ∃ r, x = some r ∧ Q r
theorem Wp.bnd {R α : Type} {Q : R → Prop} {x : Option α} {a : α} {f : α → Option R} (h : x = some a) (k : Wp (f a) Q) : Wp (x.bind f) Q := by rw [h]; exact k
theorem Wp.jn {R α : Type} {Q : R → Prop} {J : α} {b : α → Option R} (k : ∀ j, j = J → Wp (b j) Q) : Wp (joinK J b) Q := k J rfl
theorem Wp.ifp {R : Type} {Q : R → Prop} {c : Prop} [Decidable c] {a b : Option R} (h : c) (k : Wp a Q) : Wp (if c then a else b) Q := by rw [if_pos h]; exact k
theorem Wp.ifn {R : Type} {Q : R → Prop} {c : Prop} [Decidable c] {a b : Option R} (h : ¬ c) (k : Wp b Q) : Wp (if c then a else b) Q := by rw [if_neg h]; exact k
theorem Wp.gp {R : Type} {Q : R → Prop} {p : Prop} {x : Option R} (h : p) (k : Wp x Q) : Wp (guardP p x) Q := by rw [guardP_true h]; exact k
theorem Wp.of {R : Type} {Q : R → Prop} {r : R} (h : Q r) : Wp (some r) Q := ⟨r, rfl, h⟩
theorem Wp.mono {R : Type} {Q P : R → Prop} {x : Option R} (h : Wp x Q) (k : ∀ r, Q r → P r) : Wp x P := let ⟨r, e, q⟩ := h; ⟨r, e, k r q⟩
structure Nw (n0 : Nat) (h : AHeap) (s : Slc) (xs : List Int) : Prop where
  st : (∃ b, s = ⟨some ⟨b, 0, some 0⟩, 0, 0⟩ ∧ xs = [] ∧ n0 ≤ b ∧ b < h.next) ∨ (∃ b, Grown encI 3 h b s xs ∧ n0 ≤ b ∧ b < h.next)
theorem Nw.row {n0 : Nat} {h : AHeap} {s : Slc} {xs : List Int} (w : Nw n0 h s xs) : Row encI h s xs := by
  rcases w.st with ⟨b, rfl, rfl, _⟩ | ⟨b, g, _, h1⟩
  · exact Row.nil _ _ _ _
  · exact g.row h1
theorem Nw.lt {n0 : Nat} {h : AHeap} {s : Slc} {xs : List Int} (w : Nw n0 h s xs) : ∀ a, s.a = some a → n0 ≤ a.block ∧ a.block < h.next := by
  rcases w.st with ⟨b, rfl, rfl, h1⟩ | ⟨b, g, h1⟩
  · intro a ha; cases ha; exact h1
  · intro a ha; rw [g.s] at ha; cases ha; exact h1
theorem Nw.sp {n0 : Nat} {h : AHeap} {s : Slc} {xs : List Int} (w : Nw n0 h s xs) : s.cap = s.len ∧ ∃ b sp, s.a = some ⟨b, 0, sp⟩ ∧ spOk sp 1 = true := by
  rcases w.st with ⟨b, rfl, rfl, h1⟩ | ⟨b, g, h1⟩
  · exact ⟨rfl, b, _, rfl, rfl⟩
  · rw [g.s]; exact ⟨rfl, b, _, rfl, rfl⟩
theorem Nw.chg {S : Nat → Prop} {n0 : Nat} {h h' : AHeap} {s : Slc} {xs : List Int} (w : Nw n0 h s xs) (c : Chg S h h') (hs : ∀ a, s.a = some a → ¬ S a.block) : Nw n0 h' s xs := by
  rcases w.st with ⟨b, h1, h2, h3, h4⟩ | ⟨b, g, h1, h2⟩
  · exact ⟨.inl ⟨b, h1, h2, h3, Nat.lt_of_lt_of_le h4 c.nx⟩⟩
  · exact ⟨.inr ⟨b, g.chg h2 c (hs ⟨b, 0, some 2⟩ (by rw [g.s])), h1, Nat.lt_of_lt_of_le h2 c.nx⟩⟩
theorem Nw.app {n0 : Nat} {h : AHeap} {s : Slc} {xs : List Int} (w : Nw n0 h s xs) (hn : n0 ≤ h.next) (ys : List Int) (hs : xs.length + ys.length ≤ 100000) :
    ∃ s' h', appendA 1 8 3 h s (ys.map encI) ys.length = some (s', h') ∧ Nw n0 h' s' (xs ++ ys) ∧ Chg (fun x => n0 ≤ x) h h' := by
  by_cases hy : ys = []
  · subst hy
    rw [List.append_nil]
    refine ⟨s, h, ?_, w, Chg.refl _ _⟩
    rcases w.st with ⟨b, rfl, _⟩ | ⟨b, g, _⟩
    · exact append_none
    · rw [g.s]; simp [appendA]
  · have hl : ys.length ≠ 0 := fun e => hy (List.length_eq_zero_iff.1 e)
    rcases w.st with ⟨b, rfl, rfl, h1, h2⟩ | ⟨b, g, h1, h2⟩
    · exact ⟨_, _, append_fresh (enc := encI) hl (by omega) (by omega), ⟨.inr ⟨h.next, Grown.of hy, hn, by simp⟩⟩, Chg.new _ _⟩
    · refine ⟨_, _, g.append (fun _ => rfl) hy (by omega) (by omega), ⟨.inr ⟨h.next, ⟨rfl, by simp, by simp [hy]⟩, hn, by simp⟩⟩, Chg.kill_new (.inr h1)⟩
def prtOf (xs : List ByteArray) (i : Nat) : Prt := ((i : Int), xs[i]?.getD emT)
def encN (ls : List Nat) : List Int := ls.map fun (x : Nat) => (x : Int)
structure LeftI (n0 : Nat) (h : AHeap) (left out : Slc) (ls : List Nat) : Prop where
  nw : Nw n0 h left (encN ls)
  ap : ∀ a b, left.a = some a → out.a = some b → a.block ≠ b.block
end Gz
namespace Gz
open Go Gx Go.Proofs
theorem unl_all {k m : Nat} {n : Int} : ∀ (l out : List Prt), (∀ x ∈ l, goodP k m n x = 0) → unl k m n l out = (l.foldl (takeP k) out, 0)
  | [], out, _ => rfl
  | x :: l, out, h => by
    simp only [unl]
    rw [if_neg (by simpa using h x (List.mem_cons_self ..))]
    exact unl_all l (takeP k out x) fun y hy => h y (List.mem_cons_of_mem _ hy)
theorem fold_new {k : Nat} : ∀ (l out : List Prt), (idxs (out ++ l)).Nodup → out.length + l.length ≤ k → l.foldl (takeP k) out = out ++ l
  | [], out, _, _ => by simp
  | x :: l, out, h, hk => by
    have ht : takeP k out x = out ++ [x] := by
      unfold takeP
      rw [if_pos]
      refine ⟨fun hm => ?_, by simp at hk; omega⟩
      unfold idxs at h hm
      rw [List.map_append, List.nodup_append] at h
      exact h.2.2 x.1 hm x.1 (by simp) rfl
    rw [List.foldl_cons, ht, fold_new l (out ++ [x]) (by simpa using h) (by simp at hk ⊢; omega)]
    simp
theorem fold_old {k : Nat} : ∀ (l out : List Prt), (∀ x ∈ l, x.1 ∈ idxs out) → l.foldl (takeP k) out = out
  | [], out, _ => rfl
  | x :: l, out, h => by
    have ht : takeP k out x = out := by
      unfold takeP
      rw [if_neg fun c => c.1 (h x (List.mem_cons_self ..))]
    rw [List.foldl_cons, ht]
    exact fold_old l out fun y hy => h y (List.mem_cons_of_mem _ hy)
structure Fit (k m n : Nat) (ps : List Prt) : Prop where
  nd : (idxs ps).Nodup
  le : ps.length ≤ k
  ok : ∀ x ∈ ps, (0 ≤ x.1 ∧ x.1 < ((k + m : Nat) : Int)) ∧ x.2.size = n
theorem fit_good {k m n : Nat} {x : Prt} (h : (0 ≤ x.1 ∧ x.1 < ((k + m : Nat) : Int)) ∧ x.2.size = n) : goodP k m (n : Int) x = 0 := by
  unfold goodP
  rw [if_neg (fun f => f h.1), if_neg (by rw [h.2]; simp)]
theorem Fit.unlA {k m L : Nat} {ps : List Prt} (hk : 0 < k) (hL : L ≤ 65536) (f : Fit k m (nE k L) ps) : unlA k m ps (L : Int) = (ps, 0) := by
  unfold Gz.unlA
  rw [eachA_nat hk hL, if_neg (by simp)]
  simp only
  rw [unl_all ps [] fun x hx => fit_good (f.ok x hx), fold_new ps [] (by simpa using f.nd) (by simpa using f.le)]
  rfl
theorem Fit.unlA2 {k m L : Nat} {ps : List Prt} (hk : 0 < k) (hL : L ≤ 65536) (f : Fit k m (nE k L) ps) : Gz.unlA k m (ps ++ ps) (L : Int) = (ps, 0) := by
  unfold Gz.unlA
  rw [eachA_nat hk hL, if_neg (by simp)]
  simp only
  rw [unl_all (ps ++ ps) [] fun x hx => fit_good (f.ok x (by simpa using hx)), List.foldl_append, fold_new ps [] (by simpa using f.nd) (by simpa using f.le), fold_old _ _ fun x hx => ?_]
  · rfl
  · exact List.mem_map.2 ⟨x, by simpa using hx, rfl⟩
theorem OfS.fit {k m : Nat} {s : ByteArray} {ps : List Prt} (o : OfS k m s ps) : Fit k m (nE k s.size) ps :=
  ⟨o.good.nd, Nat.le_of_eq o.good.len, fun x hx => ⟨o.good.rng x hx, o.good.sz x hx⟩⟩
theorem Fit.tail {k m n : Nat} {ps : List Prt} (f : Fit k m n ps) : Fit k m n ps.tail :=
  ⟨by
    have : idxs ps.tail = (idxs ps).tail := by simp [idxs, List.map_tail]
    rw [this]; exact f.nd.sublist (List.tail_sublist _), by have := f.le; simp; omega, fun x hx => f.ok x (List.mem_of_mem_tail hx)⟩
theorem cutA_eq {k m : Nat} (hk : 0 < k) (hR : k + m ≤ 255) {s : ByteArray} {ps : List Prt} (o : OfS k m s ps) : cutA k ps (s.size : Int) = s := by
  unfold cutA flatB
  rw [piecesA_eq hk hR o, flat_pieces hk, Int.toNat_natCast, pad_take]
  exact mk_bl s
theorem join_of {k m : Nat} (hk : 0 < k) (hR : k + m ≤ 255) {s : ByteArray} (hs : s.size ≤ 65536) {ps : List Prt} (o : OfS k m s ps) : joinP k m ps (s.size : Int) = (s, 0) := by
  unfold joinP
  rw [o.fit.unlA hk hs, if_neg (by simp), if_neg (by rw [o.good.len]; omega), cutA_eq hk hR o]
theorem join_few {k m L : Nat} (hk : 0 < k) (hL : L ≤ 65536) {ps : List Prt} (f : Fit k m (nE k L) ps) (h : ps.length < k) : joinP k m ps (L : Int) = (⟨#[]⟩, 50) ∧ joinP k m (ps ++ ps) (L : Int) = (⟨#[]⟩, 50) := by
  unfold joinP
  rw [f.unlA hk hL, f.unlA2 hk hL]
  exact ⟨by rw [if_neg (by simp), if_pos h], by rw [if_neg (by simp), if_pos h]⟩
theorem ofS_of {k m : Nat} (hk : 0 < k) (hR : k + m ≤ 255) {s : ByteArray} {is : List Nat} (h1 : is.length = k) (h2 : is.Nodup) (h3 : ∀ x ∈ is, x < (shardsL k m s).length) : OfS k m s (is.map (prtOf (shardsL k m s))) := by
  rw [shardsL_length] at h3
  have hd : ∀ x ∈ is.map (prtOf (shardsL k m s)), (0 ≤ x.1 ∧ x.1 < ((k + m : Nat) : Int)) ∧ x.2 = shardB k s x.1.toNat ∧ x.1.toNat < k + m := fun x hx => by
    obtain ⟨i, hi, rfl⟩ := List.mem_map.1 hx
    have := h3 i hi
    refine ⟨⟨by simp [prtOf], by simp [prtOf]; omega⟩, ?_, by simp [prtOf]; omega⟩
    simp only [prtOf, shards_get s this, Option.getD_some, Int.toNat_natCast]
  refine ⟨⟨by simpa using h1, ?_, fun x hx => (hd x hx).1, fun x hx => ?_⟩, fun x hx => (hd x hx).2.1⟩
  · have e : idxs (is.map (prtOf (shardsL k m s))) = is.map fun (i : Nat) => (i : Int) := by simp [idxs, prtOf, Function.comp_def]
    rw [e]
    have hnd : (is.map fun (i : Nat) => (i : Int)).Nodup := by
      rw [List.Nodup, List.pairwise_map]
      exact List.Pairwise.imp (fun h e => h (by omega)) h2
    exact hnd
  · rw [(hd x hx).2.1]; exact (shard_bv hk hR s (hd x hx).2.2).1
theorem Acc2.cut {base : Nat} {h : AHeap} {s : Slc} {xs : List Prt} (A : Acc2 base h s xs) (hx : 0 < xs.length) : ∃ t, Gx.subL 2 s (some 1) none none = some t ∧ Row2 h t xs.tail ∧ Gx.rdS 2 t h = some (flat2 xs.tail) ∧ (∀ a, t.a = some a → base ≤ a.block) ∧
    ∀ h', Chg (fun x => x < base) h h' → xs.length ≤ 1000 → ∃ u h2, appendA 2 24 61 h' t (flat2 xs.tail) t.len = some (u, h2) ∧ Row2 h2 u (xs.tail ++ xs.tail) ∧ Chg (fun x => base ≤ x) h' h2 ∧ (∀ a, u.a = some a → base ≤ a.block) := by
  rcases A.st with ⟨_, rfl⟩ | ⟨b, rfl, hb, _⟩
  · simp at hx
  have hbl := A.lt ⟨b, 0, some 3⟩ rfl
  have hl := flat2_length xs
  have hln : xs.tail.length = xs.length - 1 := by simp
  have hdrop : (flat2 xs).drop 2 = flat2 xs.tail := by
    cases xs with
    | nil => simp at hx
    | cons x xs => rfl
  have hlt := flat2_length xs.tail
  rw [hln] at hlt
  let o := if (xs.length : Int) = 1 then 0 else 2
  have R : Row2 h (⟨some ⟨b, o, some 3⟩, xs.length - 1, xs.length - 1⟩ : Slc) xs.tail := by
    refine ⟨by rw [hln], fun i x hi => ?_⟩
    have hi2 : xs[i + 1]? = some x := by rw [List.getElem?_tail] at hi; exact hi
    obtain ⟨q1, q2⟩ := flat2_get hi2
    have hlt := (List.getElem?_eq_some_iff.1 hi2).1
    have ho : o = 2 := by show (if (xs.length : Int) = 1 then 0 else 2) = 2; rw [if_neg (by omega)]
    refine ⟨_, _, _, _, _, rfl, hbl.1, hb, ?_, ?_⟩
    · rw [← q1]; simp only [ho]; congr 1; omega
    · rw [← q2]; simp only [ho]; congr 1; omega
  refine ⟨⟨some ⟨b, o, some 3⟩, xs.length - 1, xs.length - 1⟩, ?_, R, ?_, ?_, fun h' c hx1 => ?_⟩
  · simp only [Gx.subL, Option.getD_none, Option.getD_some]
    rw [if_pos (by omega), if_pos (by rfl)]
    rw [show ((xs.length : Int) - 1).toNat = xs.length - 1 by omega]
    simp [o]
  · by_cases h1 : xs.length = 1
    · have : xs.tail = [] := List.eq_nil_of_length_eq_zero (by omega)
      rw [this]
      simp [Gx.rdS, AHeap.rdL, h1, flat2]
    · have ho : o = 2 := by show (if (xs.length : Int) = 1 then 0 else 2) = 2; rw [if_neg (by omega)]
      rw [ho]
      simp only [Gx.rdS, AHeap.rdL]
      split
      · omega
      · rename_i m hm
        simp only [hb]
        rw [if_pos (by omega), hdrop, List.take_of_length_le (by omega)]
  · intro a ha; cases ha; exact hbl.2
  · by_cases h1 : xs.length = 1
    · have ht : xs.tail = [] := List.eq_nil_of_length_eq_zero (by omega)
      refine ⟨⟨some ⟨b, o, some 3⟩, 0, 0⟩, h', ?_, ?_, Chg.refl _ _, fun a ha => by cases ha; exact hbl.2⟩
      · simp [appendA, h1]
      · rw [ht]; exact Row2.nil _ _ _
    · have ho : o = 2 := by show (if (xs.length : Int) = 1 then 0 else 2) = 2; rw [if_neg (by omega)]
      have hb' : h'.get b = some (.cells (flat2 xs) 61 true 0) := (c.oth b hbl.1 (by have := hbl.2; show ¬ b < base; simp only at this; omega)).trans hb
      refine ⟨⟨some ⟨h'.next, 0, some 3⟩, (xs.length - 1) + (xs.length - 1), (xs.length - 1) + (xs.length - 1)⟩, (h'.kill b).new (.cells (flat2 (xs.tail ++ xs.tail)) 61 false 0), ?_, ?_, Chg.kill_new (.inr hbl.2), fun a ha => by
        cases ha
        have := c.nx; have := hbl.1
        show base ≤ h'.next
        omega⟩
      · rw [ho]
        simp only [appendA]
        rw [if_neg (by omega), if_pos (by omega)]
        simp only [hb']
        rw [if_neg (by omega), if_pos ⟨by omega, by omega, by omega, trivial, trivial, flat2_one _⟩]
        rw [flat2_append, hdrop, List.take_of_length_le (by omega)]
      · exact row2_blk (xs := xs.tail ++ xs.tail) (e := 61) (r := false) (fz := 0) (by simp) (by simp) (by rw [List.length_append, hln])
end Gz
