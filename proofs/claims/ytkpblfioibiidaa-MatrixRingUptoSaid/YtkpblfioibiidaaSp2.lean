import Derived.Test.YtkpblfioibiidaaSp1
namespace Gy
open Go Gx Go.Proofs Fe
theorem chk_mat {R C : Nat} {g : Nat → Nat} (h1 : 1 ≤ R) (h2 : R ≤ 255) (h3 : 1 ≤ C) (h4 : C ≤ 255) (hg : El (R * C) g) : chk R C (matN (R * C) g) = 0 := by
  unfold chk
  rw [if_neg (by omega), if_neg, if_pos]
  · rw [List.all_eq_true]
    intro x hx
    obtain ⟨t, ht, e⟩ := List.mem_iff_getElem.1 hx
    have hl : (matN (R * C) g).length = R * C := mat_length _ _
    have e2 : (matN (R * C) g)[t]? = some x := by rw [List.getElem?_eq_getElem ht, e]
    unfold matN at e2
    rw [mat_get (by omega)] at e2
    cases e2
    have := hg t (by omega)
    simp [elemB]
    omega
  · rw [show (matN (R * C) g).length = R * C from mat_length _ _]
    simp
theorem matN_ext {N : Nat} {f g : Nat → Nat} (h : ∀ t, t < N → f t = g t) : matN N f = matN N g := mat_congr fun t ht => by rw [h t ht]
theorem mulP_ok {R C C2 : Nat} {a b : Nat → Nat} (h1 : 1 ≤ R) (h2 : R ≤ 255) (h3 : 1 ≤ C) (h4 : C ≤ 255) (h5 : 1 ≤ C2) (h6 : C2 ≤ 255) (ha : El (R * C) a) (hb : El (C * C2) b) :
    mulP R C (matN (R * C) a) C C2 (matN (C * C2) b) = (((R : Int), (C2 : Int), matN (R * C2) (mulG C C2 a b)), 0) := by
  unfold mulP
  rw [if_neg (fun h => h (chk_mat h1 h2 h3 h4 ha)), if_neg (fun h => h (chk_mat h3 h4 h5 h6 hb)), if_neg (fun h => h rfl)]
  simp only [Int.toNat_natCast]
  rw [matN_ext fun t ht => ?_]
  have hd := (Nat.div_lt_iff_lt_mul h5).2 ht
  have hm := Nat.mod_lt t h5
  unfold mulG
  exact dotN_congr hd hm (fun t ht => natOf_mat ht) (fun t ht => natOf_mat ht) C (Nat.le_refl _)
theorem turnP_ok {R C : Nat} {a : Nat → Nat} (h1 : 1 ≤ R) (h2 : R ≤ 255) (h3 : 1 ≤ C) (h4 : C ≤ 255) (ha : El (R * C) a) : turnP R C (matN (R * C) a) = (((C : Int), (R : Int), matN (C * R) (turnF R C a)), 0) := by
  unfold turnP
  rw [if_neg (fun h => h (chk_mat h1 h2 h3 h4 ha))]
  simp only [Int.toNat_natCast]
  rw [matN_ext fun t ht => ?_]
  have hd := (Nat.div_lt_iff_lt_mul h1).2 ht
  have hm := Nat.mod_lt t h1
  unfold turnF
  exact natOf_mat (pos_lt hm hd)
def invU (n : Nat) (a : Nat → Nat) : Nat → Nat := (stepsN n n n n 0 0 a (oneN n)).2.2
theorem invP_ok {n : Nat} {a : Nat → Nat} (h1 : 1 ≤ n) (h2 : n ≤ 255) (ha : El (n * n) a) : invP n n (matN (n * n) a) = if rk n n a = n then (((n : Int), (n : Int), matN (n * n) (invU n a)), 0) else noM 40 := by
  unfold invP
  rw [if_neg (fun h => h (chk_mat h1 h2 h1 h2 ha)), if_neg (fun h => h rfl)]
  simp only [Int.toNat_natCast]
  have sc := steps_congr (R := n) h1 h1 n 0 0 (g := natOf (matN (n * n) a)) (g' := a) (u := oneN n) (u' := oneN n) (by omega) (by omega) (fun t ht => natOf_mat ht) (fun _ _ => rfl)
  have e := rk_any (R := n) (C := n) n a (oneN n)
  rw [sc.1, e]
  have hle : rk n n a ≤ n := rk_le
  by_cases c : rk n n a = n
  · rw [if_neg (by omega), if_pos c]
    unfold invU
    rw [matN_ext fun t ht => sc.2.2 t ht]
  · rw [if_pos (by omega), if_neg c]
theorem invU_El {n : Nat} {a : Nat → Nat} (hn : 0 < n) (ha : El (n * n) a) : El (n * n) (invU n a) := by
  obtain ⟨T, T', p, j, _, _, _, _, h4, _⟩ := gaussN (C := n) hn n 0 0 a (oneN n) (fun k => k) (by omega) ha (oneN_El n) ⟨by omega, by omega, fun k hk => by omega, fun i _ _ c hc => by omega, fun _ k hk => by omega⟩
  exact h4
structure MV (sb fb : Nat) (h : AHeap) (b R C : Nat) (s : Slc) (g : Nat → Nat) : Prop where
  cel : h.get b = some (.cells (mcell R C s) 51 true 0)
  lt : b < h.next
  nf : b ≠ fb
  inm : InM h s (matN (R * C) g)
  ap : ∀ a, s.a = some a → a.block ≠ sb ∧ a.block ≠ fb
  r1 : 1 ≤ R
  r2 : R ≤ 255
  c1 : 1 ≤ C
  c2 : C ≤ 255
  el : El (R * C) g
section
variable {k0 : Nat} {sb fb : Nat} {h h' : AHeap} {b b2 R C C2 n : Nat} {s s2 : Slc} {f g : Nat → Nat}
theorem MV.chg (m : MV sb fb h b R C s g) (c : Chg (· = fb) h h') : MV sb fb h' b R C s g :=
  ⟨by rw [c.oth _ m.lt m.nf]; exact m.cel, Nat.lt_of_lt_of_le m.lt c.nx, m.nf, m.inm.chg c fun a ha => (m.ap a ha).2, m.ap, m.r1, m.r2, m.c1, m.c2, m.el⟩
theorem MV.keeps (m : MV sb fb h b R C s g) (c : Keeps h h') : MV sb fb h' b R C s g := m.chg (Chg.keeps c)
theorem MV.len (m : MV sb fb h b R C s g) : (matN (R * C) g).length ≤ 100000 := by
  rw [show (matN (R * C) g).length = R * C from mat_length _ _]
  exact Nat.le_trans (Nat.mul_le_mul m.r2 m.c2) (by omega)
theorem MV.put {h1 : AHeap} {X : (Int × Int × Slc) × Int} {p : MRes} (S : Spc h sb fb) (O : Out h h1 X p) (c1 : Chg (· = fb) h h1) (S1 : Spc h1 sb fb) (hp : p = (((R : Int), (C : Int), matN (R * C) g), 0)) (r1 : 1 ≤ R) (r2 : R ≤ 255) (q1 : 1 ≤ C) (q2 : C ≤ 255) (el : El (R * C) g) :
    ∃ h2 s', X = (((R : Int), (C : Int), s'), 0) ∧ stL 3 ⟨h1.next, 0, none⟩ (mcell R C s') (h1.new (.cells [.int .i64 0, .int .i64 0, .slice none 0 0] 51 true 0)) = some h2 ∧ MV sb fb h2 h1.next R C s' g ∧ Spc h2 sb fb ∧ Chg (· = fb) h h2 := by
  obtain ⟨⟨r, c, s'⟩, code⟩ := X
  subst hp
  obtain rfl : r = (R : Int) := O.r
  obtain rfl : c = (C : Int) := O.c
  obtain rfl : code = 0 := O.code
  obtain ⟨h2, st2, k2, n2, b2⟩ := mvar (h := h1) (e := 51) (r := (R : Int)) (c := (C : Int)) (s := s')
  have ls := S.ls
  have lf := S.lf
  have nx := c1.nx
  exact ⟨h2, s', rfl, st2, ⟨b2, by omega, by omega, O.inm.keeps k2, fun a ha => by have := O.off a ha; exact ⟨by omega, by omega⟩, r1, r2, q1, q2, el⟩, S1.keeps k2, c1.trans (Chg.keeps k2)⟩
theorem mulV (hk : 200000 ≤ k0) (S : Spc h sb fb) (A : MV sb fb h b R C s f) (B : MV sb fb h b2 C C2 s2 g) :
    ∃ h1 h2 s', matrix_Space_Mul k0 (DD k0) (some ⟨sb, 0, none⟩) (R, C, s) (C, C2, s2) h = some ((((R : Int), (C2 : Int), s'), (0 : Int)), h1) ∧ stL 3 ⟨h1.next, 0, none⟩ (mcell R C2 s') (h1.new (.cells [.int .i64 0, .int .i64 0, .slice none 0 0] 51 true 0)) = some h2 ∧
      MV sb fb h2 h1.next R C2 s' (mulG C C2 f g) ∧ Spc h2 sb fb ∧ Chg (· = fb) h h2 := by
  obtain ⟨h1, X, e, O, S1, c1⟩ := mmul_spec hk S (r := (R : Int)) (c := (C : Int)) (r2 := (C : Int)) (c2 := (C2 : Int)) A.inm B.inm A.len B.len A.ap B.ap
  obtain ⟨h2, s', rfl, st, M, S2, c2⟩ := MV.put S O c1 S1 (mulP_ok A.r1 A.r2 A.c1 A.c2 B.c1 B.c2 A.el B.el) A.r1 A.r2 B.c1 B.c2 (mul_El _ _ _ _ _)
  exact ⟨h1, h2, s', e, st, M, S2, c2⟩
theorem turnV (hk : 200000 ≤ k0) (D : CallF) (S : Spc h sb fb) (A : MV sb fb h b R C s f) :
    ∃ h1 h2 s', matrix_Turn k0 D (R, C, s) h = some ((((C : Int), (R : Int), s'), (0 : Int)), h1) ∧ stL 3 ⟨h1.next, 0, none⟩ (mcell C R s') (h1.new (.cells [.int .i64 0, .int .i64 0, .slice none 0 0] 51 true 0)) = some h2 ∧
      MV sb fb h2 h1.next C R s' (turnF R C f) ∧ Spc h2 sb fb ∧ Chg (· = fb) h h2 := by
  obtain ⟨h1, X, e, O, k1⟩ := mturn_spec hk D (r := (R : Int)) (c := (C : Int)) A.inm A.len
  obtain ⟨h2, s', rfl, st, M, S2, c2⟩ := MV.put S O (Chg.keeps k1) (S.keeps k1) (turnP_ok A.r1 A.r2 A.c1 A.c2 A.el) A.c1 A.c2 A.r1 A.r2 (turn_El A.r1 A.el)
  exact ⟨h1, h2, s', e, st, M, S2, c2⟩
theorem invV (hk : 200000 ≤ k0) (S : Spc h sb fb) (A : MV sb fb h b n n s f) :
    ∃ h1 h2 r c s' code, matrix_Space_Inverse k0 (DD k0) (some ⟨sb, 0, none⟩) (n, n, s) h = some (((r, c, s'), code), h1) ∧ stL 3 ⟨h1.next, 0, none⟩ (mcell r c s') (h1.new (.cells [.int .i64 0, .int .i64 0, .slice none 0 0] 51 true 0)) = some h2 ∧
      (rk n n f = n → r = (n : Int) ∧ c = (n : Int) ∧ code = 0 ∧ MV sb fb h2 h1.next n n s' (invU n f)) ∧ (rk n n f ≠ n → code = 40) ∧ Spc h2 sb fb ∧ Chg (· = fb) h h2 := by
  obtain ⟨h1, X, e, O, S1, c1⟩ := inverse_spec hk S (r := (n : Int)) (c := (n : Int)) A.inm A.len A.ap
  have hp := invP_ok A.r1 A.r2 A.el
  by_cases c : rk n n f = n
  · rw [if_pos c] at hp
    obtain ⟨h2, s', rfl, st, M, S2, c2⟩ := MV.put S O c1 S1 hp A.r1 A.r2 A.r1 A.r2 (invU_El A.r1 A.el)
    exact ⟨h1, h2, _, _, s', 0, e, st, fun _ => ⟨rfl, rfl, rfl, M⟩, fun h => absurd c h, S2, c2⟩
  · rw [if_neg c] at hp
    rw [hp] at O
    obtain ⟨⟨r, q, s'⟩, code⟩ := X
    obtain rfl : code = 40 := O.code
    obtain ⟨h2, st2, k2, n2, b2⟩ := mvar (h := h1) (e := 51) (r := r) (c := q) (s := s')
    exact ⟨h1, h2, r, q, s', 40, e, st2, fun h => absurd h c, fun _ => rfl, S1.keeps k2, c1.trans (Chg.keeps k2)⟩
theorem alikeV (hk : 200000 ≤ k0) (D : CallF) (S : Spc h sb fb) (A : MV sb fb h b R C s f) (B : MV sb fb h b2 R C s2 g) (e : ∀ t, t < R * C → f t = g t) :
    ∃ h1, law04_alike k0 D (R, C, s) (R, C, s2) h = some (true, h1) ∧ Spc h1 sb fb ∧ Chg (· = fb) h h1 := by
  have hl := A.len
  have Rb := B.inm.row
  rw [← matN_ext e] at Rb
  obtain ⟨h1, e1, k1⟩ := alike_spec (k0 := k0) D (r := (R : Int)) (c := (C : Int)) A.inm.row Rb (by omega) (by omega)
  exact ⟨h1, e1, S.keeps k1, Chg.keeps k1⟩
end
end Gy
namespace Gy
open Go Gx Go.Proofs Fe
theorem ring_l0 (K : Nat) (D : CallF) (j) {l kv y : Slc} {size s x y1 t u : Option Addr} {xs : List Int} {h : AHeap} (R : Row encI h y xs) (hz : ∀ x ∈ xs, x = 0) (hl : xs.length < 1000) : ∀ (m i : Nat), i + m = xs.length → ∀ bot,
    iterK bot (m + 1) (law04_MatrixRing_l0b K D j) l kv size s x y1 t u y (xs.length : Int) (i : Int) h = j l kv size s x y1 t u h
  | 0, i, hi, bot => by
    rw [iterK_s, law04_MatrixRing_l0b]
    exact ifn (by rw [decide_eq_true_eq]; omega) rfl
  | m + 1, i, hi, bot => by
    obtain ⟨x0, hx⟩ := isome (l := xs) (i := i) (by omega)
    obtain ⟨q, hq, hld⟩ := R.ldI hx
    have e := hz x0 (mem_of hx)
    rw [iterK_s, law04_MatrixRing_l0b]
    refine ifp (by rw [decide_eq_true_eq]; omega) ?_
    refine bnd hq (bnd hld ?_)
    refine ifn (by simp [e]) ?_
    rw [w1 (by omega)]
    exact ring_l0 K D j R hz hl m (i + 1) (by omega) bot
theorem one_put {g : AHeap} {n : Nat} {e : TypeId} {r c : Int} {s : Slc} : ∃ h2, stL 3 ⟨n, 0, none⟩ (mcell r c s) (g.set n (.cells [.int .i64 0, .int .i64 0, .slice none 0 0] e true 0)) = some h2 ∧ Chg (· = n) g h2 ∧ h2.next = g.next ∧ h2.get n = some (.cells (mcell r c s) e true 0) :=
  ⟨_, stM3 (cs := [.int .i64 0, .int .i64 0, .slice none 0 0]) (e := e) (by simp) rfl, (Chg.set (S := (· = n)) (.inr rfl)).trans (Chg.set (.inr rfl)), by simp, by simp⟩
noncomputable def ringFin (k : Nat) (D : CallF) (s164 : Option Addr) (g165 : Int) (p166 : Option Addr) (q167 : Option Addr) (r168 : Option Addr) (y169 : Bool) (h170 : AHeap) : Option (Bool × AHeap) :=
  (if y169 = true then
  some ((g165 == 40), h170)
  else
  (q167).bind fun p172 =>
  (ldA 3 p172 h170).bind fun l173 =>
  (decC [.i .i64, .i .i64, .l] l173).bind fun x174 =>
  (p166).bind fun p175 =>
  (ldA 3 p175 h170).bind fun l176 =>
  (decC [.i .i64, .i .i64, .l] l176).bind fun x177 =>
  (matrix_Space_Mul k D s164 (x174.1, x174.2.1, x174.2.2) (x177.1, x177.2.1, x177.2.2) h170).bind fun r178 =>
  (stL 3 (⟨r178.2.next, 0, none⟩ : Addr) ([.int .i64 r178.1.1.1, .int .i64 r178.1.1.2.1, .slice r178.1.1.2.2.a r178.1.1.2.2.len r178.1.1.2.2.cap]) (AHeap.new r178.2 (.cells [.int .i64 0, .int .i64 0, .slice none 0 0] 51 true 0))).bind fun h180 =>
  (if (g165 == 0) = true then
  (if (r178.1.2 == 0) = true then
  (r168).bind fun p181 =>
  (ldA 3 p181 h180).bind fun l182 =>
  (decC [.i .i64, .i .i64, .l] l182).bind fun x183 =>
  (ldA 3 (⟨r178.2.next, 0, none⟩ : Addr) h180).bind fun l184 =>
  (decC [.i .i64, .i .i64, .l] l184).bind fun x185 =>
  (law04_alike k D (x183.1, x183.2.1, x183.2.2) (x185.1, x185.2.1, x185.2.2) h180).bind fun r186 =>
  some (r186.1, r186.2)
  else
  some (false, h180))
  else
  some (false, h180)))
set_option maxHeartbeats 2000000 in
theorem ring_true {k0 : Nat} (hk : 200000 ≤ k0) {h : AHeap} {z0 z1 z2 : Int} {l kv : Slc} {ls ks : List Int} (Rl : Row encI h l ls) (Rk : Row encI h kv ks) (hlen : 16 * (ks.length + ls.length) ≤ 281474976710656)
    (ll : ∀ a, l.a = some a → a.block < h.next) (lk : ∀ a, kv.a = some a → a.block < h.next) : ∃ h', law04_MatrixRing k0 (DD k0) (z0, z1, z2) l kv h = some (true, h') := by
  obtain ⟨g1, hg1⟩ : ∃ g1, g1 = h.new (.cells [.int .i64 z0, .int .i64 z1, .int .i64 z2] 61 true 0) := ⟨_, rfl⟩
  have k1 : Keeps h g1 := hg1 ▸ Keeps.new h _
  have n1 : g1.next = h.next + 1 := by rw [hg1]; rfl
  have p1 : g1.get h.next = some (.cells [.int .i64 z0, .int .i64 z1, .int .i64 z2] 61 true 0) := by rw [hg1]; simp
  obtain ⟨g2, e2, k2, S2, n2⟩ := mnew_spec k0 (DD k0) g1
  obtain ⟨g3, e3, k3⟩ := works4_spec (k0 := k0) (by omega) g2
  have nx3 := k3.nx
  have k03 := (k1.trans k2).trans k3
  have p3 : g3.get h.next = some (.cells [.int .i64 z0, .int .i64 z1, .int .i64 z2] 61 true 0) := by rw [(k2.trans k3).oth _ (by omega) (fun f => f)]; exact p1
  obtain ⟨n, hn⟩ : ∃ n, n = g3.next := ⟨_, rfl⟩
  obtain ⟨g4, hg4⟩ : ∃ g4, g4 = g3.resv 2 := ⟨_, rfl⟩
  have n4 : g4.next = n + 2 := by rw [hg4, hn]; rfl
  have k4 : Keeps g3 g4 := hg4 ▸ ⟨Nat.le_add_right _ _, fun _ _ _ => rfl⟩
  have p4 : g4.get h.next = some (.cells [.int .i64 z0, .int .i64 z1, .int .i64 z2] 61 true 0) := by rw [k4.oth _ (by omega) (fun f => f)]; exact p3
  have k04 := k03.trans k4
  obtain ⟨R0, R1, f, g5, sa, hR0, hR1, e5, k5, Ef, I5, l5⟩ := made_spec hk (DD k0) (Rl.keeps k04) (by omega) (fun a ha => by have := ll a ha; omega) z0 z1
  have nx5 := k5.nx
  have p5 : g5.get h.next = some (.cells [.int .i64 z0, .int .i64 z1, .int .i64 z2] 61 true 0) := by rw [k5.oth _ (by omega) (fun f => f)]; exact p4
  have k05 := k04.trans k5
  obtain ⟨R1', R2, fy, g6, sb, hR1', hR2, e6, k6, Ey, I6, l6⟩ := made_spec hk (DD k0) (Rk.keeps k05) (by omega) (fun a ha => by have := lk a ha; omega) z1 z2
  obtain rfl : R1 = R1' := by omega
  have nx6 := k6.nx
  have k46 := k5.trans k6
  obtain ⟨g7, g8, st7, st8, _, _, _, c8, n8, bn, bn1⟩ := pair_put (g := g6) (n := n) (e := 51) (r1 := (R0 : Int)) (c1 := (R1 : Int)) (s1 := sa) (r2 := (R1 : Int)) (c2 := (R2 : Int)) (s2 := sb) (by omega)
  have k08 : Keeps h g8 := (k05.trans k6).beh c8 fun x hx e => by omega
  have k38 : Keeps g3 g8 := (k4.trans k46).beh c8 fun x hx e => by omega
  obtain ⟨m, hm⟩ : ∃ m, m = g8.next := ⟨_, rfl⟩
  obtain ⟨g9, hg9⟩ : ∃ g9, g9 = g8.resv 2 := ⟨_, rfl⟩
  have n9 : g9.next = m + 2 := by rw [hg9, hm]; rfl
  have k9 : Keeps g8 g9 := hg9 ▸ ⟨Nat.le_add_right _ _, fun _ _ _ => rfl⟩
  obtain ⟨g10, hg10⟩ : ∃ g10, g10 = g9.set m (.cells [] 3 true 0) := ⟨_, rfl⟩
  have c10 : Chg (· = m) g9 g10 := hg10 ▸ Chg.set (.inr rfl)
  have n10 : g10.next = m + 2 := by rw [hg10]; exact n9
  have k810 : Keeps g8 g10 := k9.beh c10 fun x hx e => by have e : x = m := e; omega
  have k010 := k08.trans k810
  have p8 : g8.get h.next = some (.cells [.int .i64 z0, .int .i64 z1, .int .i64 z2] 61 true 0) := by rw [k38.oth _ (by omega) (fun f => f)]; exact p3
  have p9 : g9.get h.next = some (.cells [.int .i64 z0, .int .i64 z1, .int .i64 z2] 61 true 0) := by rw [k9.oth _ (by omega) (fun f => f)]; exact p8
  have p10 : g10.get h.next = some (.cells [.int .i64 z0, .int .i64 z1, .int .i64 z2] 61 true 0) := by rw [c10.oth _ (by omega) (by omega)]; exact p9
  have rdk := Row.rdS (Rk.keeps k010)
  obtain ⟨s11, g11, ap11, G11, c11, n11⟩ := (Gl.zero (base := m) (b0 := m) (h := g10) (by omega) (Nat.le_refl _)).append (ys := ks) (by simp; omega) (by omega)
  have nx11 := c11.nx
  have ck11 : Keeps g8 g11 := k810.beh c11 fun x hx ⟨a, ha, e⟩ => by cases ha; have e : x = m := e; omega
  have p11 : g11.get h.next = some (.cells [.int .i64 z0, .int .i64 z1, .int .i64 z2] 61 true 0) := by rw [ck11.oth _ (by omega) (fun f => f)]; exact p8
  rw [List.nil_append] at G11
  have rdl := Row.rdS (Rl.keeps (k08.trans ck11))
  obtain ⟨s12, g12, ap12, G12, c12, n12⟩ := G11.append (ys := ls) (by omega) (by omega)
  have nx12 := c12.nx
  have ck12 : Keeps g8 g12 := ck11.beh c12 fun x hx ⟨a, ha, e⟩ => by have := G11.lt a ha; omega
  have p12 : g12.get h.next = some (.cells [.int .i64 z0, .int .i64 z1, .int .i64 z2] 61 true 0) := by rw [ck12.oth _ (by omega) (fun f => f)]; exact p8
  obtain ⟨R2', R0', ft, g13, st, hR2', hR0', e13, k13, Et, I13, l13⟩ := made_spec hk (DD k0) G12.row (by rw [List.length_append]; omega) (fun a ha => (G12.lt a ha).1) z2 z0
  obtain rfl : R2 = R2' := by omega
  obtain rfl : R0 = R0' := by omega
  have nx13 := k13.nx
  obtain ⟨g14, st14, c14, n14, bm⟩ := one_put (g := g13) (n := m + 1) (e := 51) (r := (R2 : Int)) (c := (R0 : Int)) (s := st)
  have k814 : Keeps g8 g14 := (ck12.trans k13).beh c14 fun x hx e => by have e : x = m + 1 := e; omega
  have am0 := amN_lt (n := 5) (by omega) (by omega) z0
  have am1 := amN_lt (n := 5) (by omega) (by omega) z1
  have am2 := amN_lt (n := 5) (by omega) (by omega) z2
  have S14 := (((S2.keeps k3).keeps k38).keeps k814)
  have A14 : MV (g1.next + 1) g1.next g14 n R0 R1 sa f := ⟨by rw [k814.oth _ (by omega) (fun f => f)]; exact bn, by omega, by omega, ((I5.keeps k6).chg c8 fun a ha => by have := l5 a ha; omega).keeps k814, fun a ha => by have := l5 a ha; omega, by omega, by omega, by omega, by omega, Ef⟩
  have B14 : MV (g1.next + 1) g1.next g14 (n + 1) R1 R2 sb fy := ⟨by rw [k814.oth _ (by omega) (fun f => f)]; exact bn1, by omega, by omega, (I6.chg c8 fun a ha => by have := l6 a ha; omega).keeps k814, fun a ha => by have := l6 a ha; omega, by omega, by omega, by omega, by omega, Ey⟩
  have T14 : MV (g1.next + 1) g1.next g14 (m + 1) R2 R0 st ft := ⟨bm, by omega, by omega, I13.chg c14 fun a ha => by have := l13 a ha; show ¬ a.block = m + 1; omega, fun a ha => by have := l13 a ha; omega, by omega, by omega, by omega, by omega, Et⟩
  obtain ⟨a1, a2, s_1, x1, y1, V1, S1', q1⟩ := mulV hk S14 A14 B14
  obtain ⟨a3, a4, s_2, x2, y2, V2, S2', q2⟩ := mulV hk S1' (B14.chg q1) (T14.chg q1)
  obtain ⟨a5, a6, s_3, x3, y3, V3, S3', q3⟩ := mulV hk S2' (V1.chg q2) ((T14.chg q1).chg q2)
  obtain ⟨a7, a8, s_4, x4, y4, V4, S4', q4⟩ := mulV hk S3' (((A14.chg q1).chg q2).chg q3) (V2.chg q3)
  obtain ⟨b1, b2, s_5, x5, y5, V5, S5', q5⟩ := turnV hk (DD k0) S4' ((((A14.chg q1).chg q2).chg q3).chg q4)
  obtain ⟨b3, b4, s_6, x6, y6, V6, S6', q6⟩ := turnV hk (DD k0) S5' (((((B14.chg q1).chg q2).chg q3).chg q4).chg q5)
  obtain ⟨b5, b6, s_7, x7, y7, V7, S7', q7⟩ := turnV hk (DD k0) S6' (((((V1.chg q2).chg q3).chg q4).chg q5).chg q6)
  obtain ⟨b7, b8, s_8, x8, y8, V8, S8', q8⟩ := mulV hk S7' (V6.chg q7) ((V5.chg q6).chg q7)
  obtain ⟨d1, hd1⟩ : ∃ d1, d1 = b8.new (.cells [.int .i64 0, .int .i64 0, .int .i64 0, .int .i64 0, .int .i64 0, .int .i64 0, .int .i64 0, .int .i64 0] 29 true 0) := ⟨_, rfl⟩
  have kd1 : Keeps b8 d1 := hd1 ▸ Keeps.new b8 _
  have nd1 : d1.next = b8.next + 1 := by rw [hd1]; rfl
  have Rz : Row encI d1 (⟨some ⟨b8.next, 0, some 0⟩, 8, 8⟩ : Slc) [0, 0, 0, 0, 0, 0, 0, 0] := Row.of_block (xs := [0, 0, 0, 0, 0, 0, 0, 0]) (b := b8.next) (o := 0) (sp := some 0) (cap := 8) (c := [0, 0, 0, 0, 0, 0, 0, 0].map encI) (e := 29) (r := true) (fz := 0) (h := d1) (by rw [hd1]; simp [encI]) (by omega) fun i x hx => by rw [Nat.zero_add, List.getElem?_map, hx]; rfl
  have qd : Chg (· = g1.next) g14 b8 := ((((((q1.trans q2).trans q3).trans q4).trans q5).trans q6).trans q7).trans q8
  have Sd1 := S8'.keeps kd1
  have W3 := (((((V3.chg q4).chg q5).chg q6).chg q7).chg q8).keeps kd1
  have W4 := ((((V4.chg q5).chg q6).chg q7).chg q8).keeps kd1
  have W7 := (V7.chg q8).keeps kd1
  have W8 := V8.keeps kd1
  have assoc : ∀ t, t < R0 * R0 → mulG R2 R0 (mulG R1 R2 f fy) ft t = mulG R1 R0 f (mulG R2 R0 fy ft) t := Vw_inj (by omega) (mul_El _ _ _ _ _) (mul_El _ _ _ _ _) (by
    have e1 := (Vw_mul (R := R0) (C := R2) (C2 := R0) (a := mulG R1 R2 f fy) (b := ft) (mul_El _ _ _ _ _) Et).trans (mm_congr (Vw_mul Ef Ey) (Eqm.refl _ _ _))
    have e2 := (Vw_mul (R := R0) (C := R1) (C2 := R0) (a := f) (b := mulG R2 R0 fy ft) Ef (mul_El _ _ _ _ _)).trans (mm_congr (Eqm.refl _ _ _) (Vw_mul Ey Et))
    rw [mm_assoc] at e1
    exact e1.trans e2.symm)
  have turned : ∀ t, t < R2 * R0 → turnF R0 R2 (mulG R1 R2 f fy) t = mulG R1 R0 (turnF R1 R2 fy) (turnF R0 R1 f) t := Vw_inj (by omega) (turn_El (by omega) (mul_El _ _ _ _ _)) (mul_El _ _ _ _ _) (by
    have e1 : Eqm R2 R0 (Vw R0 (turnF R0 R2 (mulG R1 R2 f fy))) (mm R1 (tr (Vw R2 fy)) (tr (Vw R1 f))) := by
      refine Vw_turn.trans fun i j hi hj => ?_
      rw [← tr_mm]
      exact Vw_mul Ef Ey j i hj hi
    have e2 := (Vw_mul (R := R2) (C := R1) (C2 := R0) (turn_El (by omega) Ey) (turn_El (by omega) Ef)).trans (mm_congr Vw_turn Vw_turn)
    exact e1.trans e2.symm)
  obtain ⟨d2, x9, S9', q9⟩ := alikeV hk (DD k0) Sd1 W3 W4 assoc
  obtain ⟨d3, x10, S10', q10⟩ := alikeV hk (DD k0) S9' (W7.chg q9) (W8.chg q9) turned
  have qall : Chg (· = g1.next) g14 d3 := ((qd.trans (Chg.keeps kd1)).trans q9).trans q10
  have nxall := qall.nx
  have k014 := k08.trans k814
  have c0d3 : Chg (· = g1.next) h d3 := (Chg.keeps k014).trans qall
  have p14 : g14.get h.next = some (.cells [.int .i64 z0, .int .i64 z1, .int .i64 z2] 61 true 0) := by rw [k814.oth _ (by omega) (fun f => f)]; exact p8
  have pd3 : d3.get h.next = some (.cells [.int .i64 z0, .int .i64 z1, .int .i64 z2] 61 true 0) := by rw [qall.oth _ (by omega) (by omega)]; exact p14
  obtain ⟨o, ho⟩ : ∃ o, o = d3.next := ⟨_, rfl⟩
  obtain ⟨i1, hi1⟩ : ∃ i1, i1 = d3.resv 2 := ⟨_, rfl⟩
  have ni1 : i1.next = o + 2 := by rw [hi1, ho]; rfl
  have ki1 : Keeps d3 i1 := hi1 ▸ ⟨Nat.le_add_right _ _, fun _ _ _ => rfl⟩
  have pi1 : i1.get h.next = some (.cells [.int .i64 z0, .int .i64 z1, .int .i64 z2] 61 true 0) := by rw [ki1.oth _ (by omega) (fun f => f)]; exact pd3
  have ll' : ∀ a, l.a = some a → ¬ a.block = g1.next := fun a ha => by have := ll a ha; omega
  have lk' : ∀ a, kv.a = some a → ¬ a.block = g1.next := fun a ha => by have := lk a ha; omega
  obtain ⟨M, M', A, i2, sA, hM, hM', ei2, ki2, EA, IA, lA⟩ := made_spec hk (DD k0) ((Rl.chg c0d3 ll').keeps ki1) (by omega) (fun a ha => by have := ll a ha; omega) z0 z0
  obtain rfl : M = M' := by omega
  have nxi2 := ki2.nx
  have pi2 : i2.get h.next = some (.cells [.int .i64 z0, .int .i64 z1, .int .i64 z2] 61 true 0) := by rw [ki2.oth _ (by omega) (fun f => f)]; exact pi1
  obtain ⟨M2, M2', B, i3, sB, hM2, hM2', ei3, ki3, EB, IB, lB⟩ := made_spec hk (DD k0) (((Rk.chg c0d3 lk').keeps ki1).keeps ki2) (by omega) (fun a ha => by have := lk a ha; omega) z0 z0
  obtain rfl : M = M2 := by omega
  obtain rfl : M = M2' := by omega
  have nxi3 := ki3.nx
  obtain ⟨i4, i5, st4, st5, _, _, _, c5, n5, bo, bo1⟩ := pair_put (g := i3) (n := o) (e := 51) (r1 := (M : Int)) (c1 := (M : Int)) (s1 := sA) (r2 := (M : Int)) (c2 := (M : Int)) (s2 := sB) (by omega)
  have kd5 : Keeps d3 i5 := ((ki1.trans ki2).trans ki3).beh c5 fun x hx e => by omega
  have Si5 := S10'.keeps kd5
  have A5 : MV (g1.next + 1) g1.next i5 o M M sA A := ⟨bo, by omega, by omega, (IA.keeps ki3).chg c5 fun a ha => by have := lA a ha; omega, fun a ha => by have := lA a ha; omega, by omega, by omega, by omega, by omega, EA⟩
  have B5 : MV (g1.next + 1) g1.next i5 (o + 1) M M sB B := ⟨bo1, by omega, by omega, IB.chg c5 fun a ha => by have := lB a ha; omega, fun a ha => by have := lB a ha; omega, by omega, by omega, by omega, by omega, EB⟩
  obtain ⟨j1, j2, ra, ca, s_9, cA, x11, y11, okA, noA, S11', q11⟩ := invV hk Si5 A5
  obtain ⟨j3, j4, rb, cb, s_10, cB, x12, y12, okB, noB, S12', q12⟩ := invV hk S11' (B5.chg q11)
  obtain ⟨j5, j6, s_11, x13, y13, V13, S13', q13⟩ := mulV hk S12' ((A5.chg q11).chg q12) ((B5.chg q11).chg q12)
  obtain ⟨j7, j8, rc, cc, s_12, cC, x14, y14, okC, noC, S14', q14⟩ := invV hk S13' V13
  have hMp : 0 < M := by omega
  have full := full_mul hMp EA EB (mul_El _ _ _ _ _) (Vw_mul EA EB)
  have zA := A14.cel
  have zB := B14.cel
  have zB2 := (B14.chg q1).cel
  have zT2 := (T14.chg q1).cel
  have z12 := (V1.chg q2).cel
  have zT4 := ((T14.chg q1).chg q2).cel
  have zA6 := (((A14.chg q1).chg q2).chg q3).cel
  have z26 := (V2.chg q3).cel
  have zA8 := ((((A14.chg q1).chg q2).chg q3).chg q4).cel
  have zB10 := (((((B14.chg q1).chg q2).chg q3).chg q4).chg q5).cel
  have z1b := (((((V1.chg q2).chg q3).chg q4).chg q5).chg q6).cel
  have z6 := (V6.chg q7).cel
  have z5 := ((V5.chg q6).chg q7).cel
  have zW3 := W3.cel
  have zW4 := W4.cel
  have zW7 := (W7.chg q9).cel
  have zW8 := (W8.chg q9).cel
  have zA5 := A5.cel
  have zB5 := (B5.chg q11).cel
  have zA6b := ((A5.chg q11).chg q12).cel
  have zB6b := ((B5.chg q11).chg q12).cel
  have z13 := V13.cel
  have pre : ∀ {X : AHeap}, (if (cA != 0) = true then ringFin k0 (DD k0) (some ⟨g1.next + 1, 0, none⟩) cC (some ⟨j1.next, 0, none⟩) (some ⟨j3.next, 0, none⟩) (some ⟨j7.next, 0, none⟩) true j8
      else ringFin k0 (DD k0) (some ⟨g1.next + 1, 0, none⟩) cC (some ⟨j1.next, 0, none⟩) (some ⟨j3.next, 0, none⟩) (some ⟨j7.next, 0, none⟩) (cB != 0) j8) = some (true, X) → law04_MatrixRing k0 (DD k0) (z0, z1, z2) l kv h = some (true, X) := fun {X} hX => by
    unfold law04_MatrixRing
    dsimp only
    rw [← hg1]
    refine bnd e2 ?_
    with_reducible repeat' first | refine sbn ?_ | refine bnd (ldM3 (by assumption)) ?_ | refine bnd (decM3 _ _ _) ?_ | refine bnd (ldI0 (by assumption)) ?_ | refine bnd (ldI1 (by assumption)) ?_ | refine bnd (ldL2 (by assumption)) ?_ | refine jn ?_ | refine gp1 ?_ ?_ | refine gp2 ?_ ?_ ?_ | refine gp3 ?_ ?_ ?_ ?_ | refine bnd (ldZ0 (by assumption)) ?_ | refine bnd (ldZ1 (by assumption)) ?_ | refine bnd (ldZ2 (by assumption)) ?_ | rfl
    refine ifn (by simp) (bnd e3 ?_)
    refine ifn (by simp) ?_
    dsimp only
    rw [← hg4, ← hn, show n + 0 = n from rfl]
    with_reducible repeat' first | refine sbn ?_ | refine bnd (ldM3 (by assumption)) ?_ | refine bnd (decM3 _ _ _) ?_ | refine bnd (ldI0 (by assumption)) ?_ | refine bnd (ldI1 (by assumption)) ?_ | refine bnd (ldL2 (by assumption)) ?_ | refine jn ?_ | refine gp1 ?_ ?_ | refine gp2 ?_ ?_ ?_ | refine gp3 ?_ ?_ ?_ ?_ | refine bnd (ldZ0 (by assumption)) ?_ | refine bnd (ldZ1 (by assumption)) ?_ | refine bnd (ldZ2 (by assumption)) ?_ | rfl
    refine bnd e5 ?_
    with_reducible repeat' first | refine sbn ?_ | refine bnd (ldM3 (by assumption)) ?_ | refine bnd (decM3 _ _ _) ?_ | refine bnd (ldI0 (by assumption)) ?_ | refine bnd (ldI1 (by assumption)) ?_ | refine bnd (ldL2 (by assumption)) ?_ | refine jn ?_ | refine gp1 ?_ ?_ | refine gp2 ?_ ?_ ?_ | refine gp3 ?_ ?_ ?_ ?_ | refine bnd (ldZ0 (by assumption)) ?_ | refine bnd (ldZ1 (by assumption)) ?_ | refine bnd (ldZ2 (by assumption)) ?_ | rfl
    refine bnd e6 ?_
    refine bnd st7 (bnd st8 ?_)
    rw [← hg9, ← hm, show m + 0 = m from rfl, ← hg10]
    refine bnd rdk ?_
    rw [Rk.1]
    refine bnd ap11 ?_
    refine bnd rdl ?_
    rw [Rl.1]
    refine bnd ap12 ?_
    with_reducible repeat' first | refine sbn ?_ | refine bnd (ldM3 (by assumption)) ?_ | refine bnd (decM3 _ _ _) ?_ | refine bnd (ldI0 (by assumption)) ?_ | refine bnd (ldI1 (by assumption)) ?_ | refine bnd (ldL2 (by assumption)) ?_ | refine jn ?_ | refine gp1 ?_ ?_ | refine gp2 ?_ ?_ ?_ | refine gp3 ?_ ?_ ?_ ?_ | refine bnd (ldZ0 (by assumption)) ?_ | refine bnd (ldZ1 (by assumption)) ?_ | refine bnd (ldZ2 (by assumption)) ?_ | rfl
    refine bnd e13 (bnd st14 ?_)
    with_reducible repeat' first | refine sbn ?_ | refine bnd (ldM3 (by assumption)) ?_ | refine bnd (decM3 _ _ _) ?_ | refine bnd (ldI0 (by assumption)) ?_ | refine bnd (ldI1 (by assumption)) ?_ | refine bnd (ldL2 (by assumption)) ?_ | refine jn ?_ | refine gp1 ?_ ?_ | refine gp2 ?_ ?_ ?_ | refine gp3 ?_ ?_ ?_ ?_ | refine bnd (ldZ0 (by assumption)) ?_ | refine bnd (ldZ1 (by assumption)) ?_ | refine bnd (ldZ2 (by assumption)) ?_ | rfl
    refine bnd x1 (bnd y1 ?_)
    with_reducible repeat' first | refine sbn ?_ | refine bnd (ldM3 (by assumption)) ?_ | refine bnd (decM3 _ _ _) ?_ | refine bnd (ldI0 (by assumption)) ?_ | refine bnd (ldI1 (by assumption)) ?_ | refine bnd (ldL2 (by assumption)) ?_ | refine jn ?_ | refine gp1 ?_ ?_ | refine gp2 ?_ ?_ ?_ | refine gp3 ?_ ?_ ?_ ?_ | refine bnd (ldZ0 (by assumption)) ?_ | refine bnd (ldZ1 (by assumption)) ?_ | refine bnd (ldZ2 (by assumption)) ?_ | rfl
    refine bnd x2 (bnd y2 ?_)
    with_reducible repeat' first | refine sbn ?_ | refine bnd (ldM3 (by assumption)) ?_ | refine bnd (decM3 _ _ _) ?_ | refine bnd (ldI0 (by assumption)) ?_ | refine bnd (ldI1 (by assumption)) ?_ | refine bnd (ldL2 (by assumption)) ?_ | refine jn ?_ | refine gp1 ?_ ?_ | refine gp2 ?_ ?_ ?_ | refine gp3 ?_ ?_ ?_ ?_ | refine bnd (ldZ0 (by assumption)) ?_ | refine bnd (ldZ1 (by assumption)) ?_ | refine bnd (ldZ2 (by assumption)) ?_ | rfl
    refine bnd x3 (bnd y3 ?_)
    with_reducible repeat' first | refine sbn ?_ | refine bnd (ldM3 (by assumption)) ?_ | refine bnd (decM3 _ _ _) ?_ | refine bnd (ldI0 (by assumption)) ?_ | refine bnd (ldI1 (by assumption)) ?_ | refine bnd (ldL2 (by assumption)) ?_ | refine jn ?_ | refine gp1 ?_ ?_ | refine gp2 ?_ ?_ ?_ | refine gp3 ?_ ?_ ?_ ?_ | refine bnd (ldZ0 (by assumption)) ?_ | refine bnd (ldZ1 (by assumption)) ?_ | refine bnd (ldZ2 (by assumption)) ?_ | rfl
    refine bnd x4 (bnd y4 ?_)
    with_reducible repeat' first | refine sbn ?_ | refine bnd (ldM3 (by assumption)) ?_ | refine bnd (decM3 _ _ _) ?_ | refine bnd (ldI0 (by assumption)) ?_ | refine bnd (ldI1 (by assumption)) ?_ | refine bnd (ldL2 (by assumption)) ?_ | refine jn ?_ | refine gp1 ?_ ?_ | refine gp2 ?_ ?_ ?_ | refine gp3 ?_ ?_ ?_ ?_ | refine bnd (ldZ0 (by assumption)) ?_ | refine bnd (ldZ1 (by assumption)) ?_ | refine bnd (ldZ2 (by assumption)) ?_ | rfl
    refine bnd x5 (bnd y5 ?_)
    with_reducible repeat' first | refine sbn ?_ | refine bnd (ldM3 (by assumption)) ?_ | refine bnd (decM3 _ _ _) ?_ | refine bnd (ldI0 (by assumption)) ?_ | refine bnd (ldI1 (by assumption)) ?_ | refine bnd (ldL2 (by assumption)) ?_ | refine jn ?_ | refine gp1 ?_ ?_ | refine gp2 ?_ ?_ ?_ | refine gp3 ?_ ?_ ?_ ?_ | refine bnd (ldZ0 (by assumption)) ?_ | refine bnd (ldZ1 (by assumption)) ?_ | refine bnd (ldZ2 (by assumption)) ?_ | rfl
    refine bnd x6 (bnd y6 ?_)
    with_reducible repeat' first | refine sbn ?_ | refine bnd (ldM3 (by assumption)) ?_ | refine bnd (decM3 _ _ _) ?_ | refine bnd (ldI0 (by assumption)) ?_ | refine bnd (ldI1 (by assumption)) ?_ | refine bnd (ldL2 (by assumption)) ?_ | refine jn ?_ | refine gp1 ?_ ?_ | refine gp2 ?_ ?_ ?_ | refine gp3 ?_ ?_ ?_ ?_ | refine bnd (ldZ0 (by assumption)) ?_ | refine bnd (ldZ1 (by assumption)) ?_ | refine bnd (ldZ2 (by assumption)) ?_ | rfl
    refine bnd x7 (bnd y7 ?_)
    with_reducible repeat' first | refine sbn ?_ | refine bnd (ldM3 (by assumption)) ?_ | refine bnd (decM3 _ _ _) ?_ | refine bnd (ldI0 (by assumption)) ?_ | refine bnd (ldI1 (by assumption)) ?_ | refine bnd (ldL2 (by assumption)) ?_ | refine jn ?_ | refine gp1 ?_ ?_ | refine gp2 ?_ ?_ ?_ | refine gp3 ?_ ?_ ?_ ?_ | refine bnd (ldZ0 (by assumption)) ?_ | refine bnd (ldZ1 (by assumption)) ?_ | refine bnd (ldZ2 (by assumption)) ?_ | rfl
    refine bnd x8 (bnd y8 ?_)
    with_reducible repeat' first | refine sbn ?_ | refine bnd (ldM3 (by assumption)) ?_ | refine bnd (decM3 _ _ _) ?_ | refine bnd (ldI0 (by assumption)) ?_ | refine bnd (ldI1 (by assumption)) ?_ | refine bnd (ldL2 (by assumption)) ?_ | refine jn ?_ | refine gp1 ?_ ?_ | refine gp2 ?_ ?_ ?_ | refine gp3 ?_ ?_ ?_ ?_ | refine bnd (ldZ0 (by assumption)) ?_ | refine bnd (ldZ1 (by assumption)) ?_ | refine bnd (ldZ2 (by assumption)) ?_ | rfl
    rw [← hd1]
    unfold law04_MatrixRing_l0
    obtain ⟨bot, hbot⟩ := iterK_of (fun _ _ _ _ _ _ _ _ _ _ _ _ => none) (law04_MatrixRing_l0b k0 (DD k0) _) (show 8 + 1 ≤ k0 by omega)
    rw [hbot]
    refine (ring_l0 k0 (DD k0) _ Rz (by simp) (by simp) 8 0 (by simp) bot).trans ?_
    with_reducible repeat' first | refine sbn ?_ | refine bnd (ldM3 (by assumption)) ?_ | refine bnd (decM3 _ _ _) ?_ | refine bnd (ldI0 (by assumption)) ?_ | refine bnd (ldI1 (by assumption)) ?_ | refine bnd (ldL2 (by assumption)) ?_ | refine jn ?_ | refine gp1 ?_ ?_ | refine gp2 ?_ ?_ ?_ | refine gp3 ?_ ?_ ?_ ?_ | refine bnd (ldZ0 (by assumption)) ?_ | refine bnd (ldZ1 (by assumption)) ?_ | refine bnd (ldZ2 (by assumption)) ?_ | rfl
    refine bnd x9 (ifn (by simp) ?_)
    with_reducible repeat' first | refine sbn ?_ | refine bnd (ldM3 (by assumption)) ?_ | refine bnd (decM3 _ _ _) ?_ | refine bnd (ldI0 (by assumption)) ?_ | refine bnd (ldI1 (by assumption)) ?_ | refine bnd (ldL2 (by assumption)) ?_ | refine jn ?_ | refine gp1 ?_ ?_ | refine gp2 ?_ ?_ ?_ | refine gp3 ?_ ?_ ?_ ?_ | refine bnd (ldZ0 (by assumption)) ?_ | refine bnd (ldZ1 (by assumption)) ?_ | refine bnd (ldZ2 (by assumption)) ?_ | rfl
    refine bnd x10 (ifn (by simp) ?_)
    dsimp only
    rw [← hi1, ← ho, show o + 0 = o from rfl]
    with_reducible repeat' first | refine sbn ?_ | refine bnd (ldM3 (by assumption)) ?_ | refine bnd (decM3 _ _ _) ?_ | refine bnd (ldI0 (by assumption)) ?_ | refine bnd (ldI1 (by assumption)) ?_ | refine bnd (ldL2 (by assumption)) ?_ | refine jn ?_ | refine gp1 ?_ ?_ | refine gp2 ?_ ?_ ?_ | refine gp3 ?_ ?_ ?_ ?_ | refine bnd (ldZ0 (by assumption)) ?_ | refine bnd (ldZ1 (by assumption)) ?_ | refine bnd (ldZ2 (by assumption)) ?_ | rfl
    refine bnd ei2 ?_
    with_reducible repeat' first | refine sbn ?_ | refine bnd (ldM3 (by assumption)) ?_ | refine bnd (decM3 _ _ _) ?_ | refine bnd (ldI0 (by assumption)) ?_ | refine bnd (ldI1 (by assumption)) ?_ | refine bnd (ldL2 (by assumption)) ?_ | refine jn ?_ | refine gp1 ?_ ?_ | refine gp2 ?_ ?_ ?_ | refine gp3 ?_ ?_ ?_ ?_ | refine bnd (ldZ0 (by assumption)) ?_ | refine bnd (ldZ1 (by assumption)) ?_ | refine bnd (ldZ2 (by assumption)) ?_ | rfl
    refine bnd ei3 (bnd st4 (bnd st5 ?_))
    with_reducible repeat' first | refine sbn ?_ | refine bnd (ldM3 (by assumption)) ?_ | refine bnd (decM3 _ _ _) ?_ | refine bnd (ldI0 (by assumption)) ?_ | refine bnd (ldI1 (by assumption)) ?_ | refine bnd (ldL2 (by assumption)) ?_ | refine jn ?_ | refine gp1 ?_ ?_ | refine gp2 ?_ ?_ ?_ | refine gp3 ?_ ?_ ?_ ?_ | refine bnd (ldZ0 (by assumption)) ?_ | refine bnd (ldZ1 (by assumption)) ?_ | refine bnd (ldZ2 (by assumption)) ?_ | rfl
    refine bnd x11 (bnd y11 ?_)
    with_reducible repeat' first | refine sbn ?_ | refine bnd (ldM3 (by assumption)) ?_ | refine bnd (decM3 _ _ _) ?_ | refine bnd (ldI0 (by assumption)) ?_ | refine bnd (ldI1 (by assumption)) ?_ | refine bnd (ldL2 (by assumption)) ?_ | refine jn ?_ | refine gp1 ?_ ?_ | refine gp2 ?_ ?_ ?_ | refine gp3 ?_ ?_ ?_ ?_ | refine bnd (ldZ0 (by assumption)) ?_ | refine bnd (ldZ1 (by assumption)) ?_ | refine bnd (ldZ2 (by assumption)) ?_ | rfl
    refine bnd x12 (bnd y12 ?_)
    with_reducible repeat' first | refine sbn ?_ | refine bnd (ldM3 (by assumption)) ?_ | refine bnd (decM3 _ _ _) ?_ | refine bnd (ldI0 (by assumption)) ?_ | refine bnd (ldI1 (by assumption)) ?_ | refine bnd (ldL2 (by assumption)) ?_ | refine jn ?_ | refine gp1 ?_ ?_ | refine gp2 ?_ ?_ ?_ | refine gp3 ?_ ?_ ?_ ?_ | refine bnd (ldZ0 (by assumption)) ?_ | refine bnd (ldZ1 (by assumption)) ?_ | refine bnd (ldZ2 (by assumption)) ?_ | rfl
    refine bnd x13 (bnd y13 ?_)
    with_reducible repeat' first | refine sbn ?_ | refine bnd (ldM3 (by assumption)) ?_ | refine bnd (decM3 _ _ _) ?_ | refine bnd (ldI0 (by assumption)) ?_ | refine bnd (ldI1 (by assumption)) ?_ | refine bnd (ldL2 (by assumption)) ?_ | refine jn ?_ | refine gp1 ?_ ?_ | refine gp2 ?_ ?_ ?_ | refine gp3 ?_ ?_ ?_ ?_ | refine bnd (ldZ0 (by assumption)) ?_ | refine bnd (ldZ1 (by assumption)) ?_ | refine bnd (ldZ2 (by assumption)) ?_ | rfl
    refine bnd x14 (bnd y14 ?_)
    with_reducible repeat' first | refine sbn ?_ | refine bnd (ldM3 (by assumption)) ?_ | refine bnd (decM3 _ _ _) ?_ | refine bnd (ldI0 (by assumption)) ?_ | refine bnd (ldI1 (by assumption)) ?_ | refine bnd (ldL2 (by assumption)) ?_ | refine jn ?_ | refine gp1 ?_ ?_ | refine gp2 ?_ ?_ ?_ | refine gp3 ?_ ?_ ?_ ?_ | refine bnd (ldZ0 (by assumption)) ?_ | refine bnd (ldZ1 (by assumption)) ?_ | refine bnd (ldZ2 (by assumption)) ?_ | rfl
    exact hX
  by_cases cfA : rk M M A = M
  · obtain ⟨rfl, rfl, rfl, VA⟩ := okA cfA
    by_cases cfB : rk M M B = M
    · obtain ⟨rfl, rfl, rfl, VB⟩ := okB cfB
      obtain ⟨rfl, rfl, rfl, VC⟩ := okC (full.2 ⟨cfA, cfB⟩)
      have EU : ∀ t, t < M * M → invU M (mulG M M A B) t = mulG M M (invU M B) (invU M A) t := Vw_inj hMp (invU_El hMp (mul_El _ _ _ _ _)) (mul_El _ _ _ _ _) ((inv_mul_eq hMp EA EB (mul_El _ _ _ _ _) (Vw_mul EA EB) cfA cfB).trans (Vw_mul (invU_El hMp EB) (invU_El hMp EA)).symm)
      obtain ⟨t1, t2, s_13, x15, y15, V15, S15', q15⟩ := mulV hk S14' ((VB.chg q13).chg q14) (((VA.chg q12).chg q13).chg q14)
      obtain ⟨t3, x16, S16', q16⟩ := alikeV hk (DD k0) S15' (VC.chg q15) V15 EU
      have zVB := ((VB.chg q13).chg q14).cel
      have zVA := (((VA.chg q12).chg q13).chg q14).cel
      have zVC := (VC.chg q15).cel
      have zV15 := V15.cel
      refine ⟨t3, pre ?_⟩
      refine ifn (by simp) ?_
      unfold ringFin
      refine ifn (by simp) ?_
      with_reducible repeat' first | refine sbn ?_ | refine bnd (ldM3 (by assumption)) ?_ | refine bnd (decM3 _ _ _) ?_ | refine bnd (ldI0 (by assumption)) ?_ | refine bnd (ldI1 (by assumption)) ?_ | refine bnd (ldL2 (by assumption)) ?_ | refine jn ?_ | refine gp1 ?_ ?_ | refine gp2 ?_ ?_ ?_ | refine gp3 ?_ ?_ ?_ ?_ | refine bnd (ldZ0 (by assumption)) ?_ | refine bnd (ldZ1 (by assumption)) ?_ | refine bnd (ldZ2 (by assumption)) ?_ | rfl
      refine bnd x15 (bnd y15 (ifp (by simp) (ifp (by simp) ?_)))
      with_reducible repeat' first | refine sbn ?_ | refine bnd (ldM3 (by assumption)) ?_ | refine bnd (decM3 _ _ _) ?_ | refine bnd (ldI0 (by assumption)) ?_ | refine bnd (ldI1 (by assumption)) ?_ | refine bnd (ldL2 (by assumption)) ?_ | refine jn ?_ | refine gp1 ?_ ?_ | refine gp2 ?_ ?_ ?_ | refine gp3 ?_ ?_ ?_ ?_ | refine bnd (ldZ0 (by assumption)) ?_ | refine bnd (ldZ1 (by assumption)) ?_ | refine bnd (ldZ2 (by assumption)) ?_ | rfl
      exact bnd x16 rfl
    · have hc := noC fun e => cfB (full.1 e).2
      have hb := noB cfB
      exact ⟨j8, pre (ifn (by simp) (ifp (by rw [hb]; simp) (by rw [hc]; simp)))⟩
  · have hc := noC fun e => cfA (full.1 e).1
    have ha := noA cfA
    exact ⟨j8, pre (ifp (by rw [ha]; simp) (ifp rfl (by rw [hc]; simp)))⟩
end Gy
