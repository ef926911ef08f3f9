import Derived.Test.YtkpblfioibiidaaSp1
namespace Gy
open Go Gx Go.Proofs Fe
theorem chk_mat {R C : Nat} {g : Nat → Nat} (h1 : 1 ≤ R) (h2 : R ≤ 255) (h3 : 1 ≤ C) (h4 : C ≤ 255) (hg : El (R * C) g) : chk R C (matN (R * C) g) = 0 := by
  unfold chk
  rw [if_neg (by omega), if_neg, if_pos]
  · rw [List.all_eq_true]
    intro x hx
    obtain ⟨t, ht, e⟩ := List.mem_iff_getElem.1 hx
    have hl : (matN (R * C) g).length = R * C := mat_length _ _
    have e2 : (matN (R * C) g)[t]? = some x := by rw [List.getElem?_eq_getElem ht, e]
    unfold matN at e2
    rw [mat_get (by omega)] at e2
    cases e2
    have := hg t (by omega)
    simp [elemB]
    omega
  · rw [show (matN (R * C) g).length = R * C from mat_length _ _]
    simp
theorem matN_ext {N : Nat} {f g : Nat → Nat} (h : ∀ t, t < N → f t = g t) : matN N f = matN N g := mat_congr fun t ht => by rw [h t ht]
theorem mulP_ok {R C C2 : Nat} {a b : Nat → Nat} (h1 : 1 ≤ R) (h2 : R ≤ 255) (h3 : 1 ≤ C) (h4 : C ≤ 255) (h5 : 1 ≤ C2) (h6 : C2 ≤ 255) (ha : El (R * C) a) (hb : El (C * C2) b) :
    mulP R C (matN (R * C) a) C C2 (matN (C * C2) b) = (((R : Int), (C2 : Int), matN (R * C2) (mulG C C2 a b)), 0) := by
  unfold mulP
  rw [if_neg (fun h => h (chk_mat h1 h2 h3 h4 ha)), if_neg (fun h => h (chk_mat h3 h4 h5 h6 hb)), if_neg (fun h => h rfl)]
  simp only [Int.toNat_natCast]
  rw [matN_ext fun t ht => ?_]
  have hd := (Nat.div_lt_iff_lt_mul h5).2 ht
  have hm := Nat.mod_lt t h5
  unfold mulG
  exact dotN_congr hd hm (fun t ht => natOf_mat ht) (fun t ht => natOf_mat ht) C (Nat.le_refl _)
theorem turnP_ok {R C : Nat} {a : Nat → Nat} (h1 : 1 ≤ R) (h2 : R ≤ 255) (h3 : 1 ≤ C) (h4 : C ≤ 255) (ha : El (R * C) a) : turnP R C (matN (R * C) a) = (((C : Int), (R : Int), matN (C * R) (turnF R C a)), 0) := by
  unfold turnP
  rw [if_neg (fun h => h (chk_mat h1 h2 h3 h4 ha))]
  simp only [Int.toNat_natCast]
  rw [matN_ext fun t ht => ?_]
  have hd := (Nat.div_lt_iff_lt_mul h1).2 ht
  have hm := Nat.mod_lt t h1
  unfold turnF
  exact natOf_mat (pos_lt hm hd)
def invU (n : Nat) (a : Nat → Nat) : Nat → Nat := (stepsN n n n n 0 0 a (oneN n)).2.2
theorem invP_ok {n : Nat} {a : Nat → Nat} (h1 : 1 ≤ n) (h2 : n ≤ 255) (ha : El (n * n) a) : invP n n (matN (n * n) a) = if rk n n a = n then (((n : Int), (n : Int), matN (n * n) (invU n a)), 0) else noM 40 := by
  unfold invP
  rw [if_neg (fun h => h (chk_mat h1 h2 h1 h2 ha)), if_neg (fun h => h rfl)]
  simp only [Int.toNat_natCast]
  have sc := steps_congr (R := n) h1 h1 n 0 0 (g := natOf (matN (n * n) a)) (g' := a) (u := oneN n) (u' := oneN n) (by omega) (by omega) (fun t ht => natOf_mat ht) (fun _ _ => rfl)
  have e := rk_any (R := n) (C := n) n a (oneN n)
  rw [sc.1, e]
  have hle : rk n n a ≤ n := rk_le
  by_cases c : rk n n a = n
  · rw [if_neg (by omega), if_pos c]
    unfold invU
    rw [matN_ext fun t ht => sc.2.2 t ht]
  · rw [if_pos (by omega), if_neg c]
theorem rankP_ok {R C : Nat} {a : Nat → Nat} (h1 : 1 ≤ R) (h2 : R ≤ 255) (h3 : 1 ≤ C) (h4 : C ≤ 255) (ha : El (R * C) a) : rankP R C (matN (R * C) a) = ((rk R C a : Int), 0) := by
  unfold rankP
  rw [if_neg (fun h => h (chk_mat h1 h2 h3 h4 ha))]
  simp only [Int.toNat_natCast]
  have sc := steps_congr (R := R) (C2 := 1) h3 (by omega) C 0 0 (g := natOf (matN (R * C) a)) (g' := a) (u := fun _ => 0) (u' := fun _ => 0) (by omega) (by omega) (fun t ht => natOf_mat ht) (fun _ _ => rfl)
  rw [sc.1]
  rfl
theorem invU_El {n : Nat} {a : Nat → Nat} (hn : 0 < n) (ha : El (n * n) a) : El (n * n) (invU n a) := by
  obtain ⟨T, T', p, j, _, _, _, _, h4, _⟩ := gaussN (C := n) hn n 0 0 a (oneN n) (fun k => k) (by omega) ha (oneN_El n) ⟨by omega, by omega, fun k hk => by omega, fun i _ _ c hc => by omega, fun _ k hk => by omega⟩
  exact h4
structure MV (sb fb : Nat) (h : AHeap) (b R C : Nat) (s : Slc) (g : Nat → Nat) : Prop where
  cel : h.get b = some (.cells (mcell R C s) 51 true 0)
  lt : b < h.next
  nf : b ≠ fb
  inm : InM h s (matN (R * C) g)
  ap : ∀ a, s.a = some a → a.block ≠ sb ∧ a.block ≠ fb
  r1 : 1 ≤ R
  r2 : R ≤ 255
  c1 : 1 ≤ C
  c2 : C ≤ 255
  el : El (R * C) g
section
variable {k0 : Nat} {sb fb : Nat} {h h' : AHeap} {b b2 R C C2 n : Nat} {s s2 : Slc} {f g : Nat → Nat}
theorem MV.chg (m : MV sb fb h b R C s g) (c : Chg (· = fb) h h') : MV sb fb h' b R C s g :=
  ⟨by rw [c.oth _ m.lt m.nf]; exact m.cel, Nat.lt_of_lt_of_le m.lt c.nx, m.nf, m.inm.chg c fun a ha => (m.ap a ha).2, m.ap, m.r1, m.r2, m.c1, m.c2, m.el⟩
theorem MV.keeps (m : MV sb fb h b R C s g) (c : Keeps h h') : MV sb fb h' b R C s g := m.chg (Chg.keeps c)
theorem MV.len (m : MV sb fb h b R C s g) : (matN (R * C) g).length ≤ 100000 := by
  rw [show (matN (R * C) g).length = R * C from mat_length _ _]
  exact Nat.le_trans (Nat.mul_le_mul m.r2 m.c2) (by omega)
theorem MV.put {h1 : AHeap} {X : (Int × Int × Slc) × Int} {p : MRes} (S : Spc h sb fb) (O : Out h h1 X p) (c1 : Chg (· = fb) h h1) (S1 : Spc h1 sb fb) (hp : p = (((R : Int), (C : Int), matN (R * C) g), 0)) (r1 : 1 ≤ R) (r2 : R ≤ 255) (q1 : 1 ≤ C) (q2 : C ≤ 255) (el : El (R * C) g) :
    ∃ h2 s', X = (((R : Int), (C : Int), s'), 0) ∧ stL 3 ⟨h1.next, 0, none⟩ (mcell R C s') (h1.new (.cells [.int .i64 0, .int .i64 0, .slice none 0 0] 51 true 0)) = some h2 ∧ MV sb fb h2 h1.next R C s' g ∧ Spc h2 sb fb ∧ Chg (· = fb) h h2 := by
  obtain ⟨⟨r, c, s'⟩, code⟩ := X
  subst hp
  obtain rfl : r = (R : Int) := O.r
  obtain rfl : c = (C : Int) := O.c
  obtain rfl : code = 0 := O.code
  obtain ⟨h2, st2, k2, n2, b2⟩ := mvar (h := h1) (e := 51) (r := (R : Int)) (c := (C : Int)) (s := s')
  have ls := S.ls
  have lf := S.lf
  have nx := c1.nx
  exact ⟨h2, s', rfl, st2, ⟨b2, by omega, by omega, O.inm.keeps k2, fun a ha => by have := O.off a ha; exact ⟨by omega, by omega⟩, r1, r2, q1, q2, el⟩, S1.keeps k2, c1.trans (Chg.keeps k2)⟩
theorem mulV (hk : 200000 ≤ k0) (S : Spc h sb fb) (A : MV sb fb h b R C s f) (B : MV sb fb h b2 C C2 s2 g) :
    ∃ h1 h2 s', matrix_Space_Mul k0 (DD k0) (some ⟨sb, 0, none⟩) (R, C, s) (C, C2, s2) h = some ((((R : Int), (C2 : Int), s'), (0 : Int)), h1) ∧ stL 3 ⟨h1.next, 0, none⟩ (mcell R C2 s') (h1.new (.cells [.int .i64 0, .int .i64 0, .slice none 0 0] 51 true 0)) = some h2 ∧
      MV sb fb h2 h1.next R C2 s' (mulG C C2 f g) ∧ Spc h2 sb fb ∧ Chg (· = fb) h h2 := by
  obtain ⟨h1, X, e, O, S1, c1⟩ := mmul_spec hk S (r := (R : Int)) (c := (C : Int)) (r2 := (C : Int)) (c2 := (C2 : Int)) A.inm B.inm A.len B.len A.ap B.ap
  obtain ⟨h2, s', rfl, st, M, S2, c2⟩ := MV.put S O c1 S1 (mulP_ok A.r1 A.r2 A.c1 A.c2 B.c1 B.c2 A.el B.el) A.r1 A.r2 B.c1 B.c2 (mul_El _ _ _ _ _)
  exact ⟨h1, h2, s', e, st, M, S2, c2⟩
theorem turnV (hk : 200000 ≤ k0) (D : CallF) (S : Spc h sb fb) (A : MV sb fb h b R C s f) :
    ∃ h1 h2 s', matrix_Turn k0 D (R, C, s) h = some ((((C : Int), (R : Int), s'), (0 : Int)), h1) ∧ stL 3 ⟨h1.next, 0, none⟩ (mcell C R s') (h1.new (.cells [.int .i64 0, .int .i64 0, .slice none 0 0] 51 true 0)) = some h2 ∧
      MV sb fb h2 h1.next C R s' (turnF R C f) ∧ Spc h2 sb fb ∧ Chg (· = fb) h h2 := by
  obtain ⟨h1, X, e, O, k1⟩ := mturn_spec hk D (r := (R : Int)) (c := (C : Int)) A.inm A.len
  obtain ⟨h2, s', rfl, st, M, S2, c2⟩ := MV.put S O (Chg.keeps k1) (S.keeps k1) (turnP_ok A.r1 A.r2 A.c1 A.c2 A.el) A.c1 A.c2 A.r1 A.r2 (turn_El A.r1 A.el)
  exact ⟨h1, h2, s', e, st, M, S2, c2⟩
theorem invV (hk : 200000 ≤ k0) (S : Spc h sb fb) (A : MV sb fb h b n n s f) :
    ∃ h1 h2 r c s' code, matrix_Space_Inverse k0 (DD k0) (some ⟨sb, 0, none⟩) (n, n, s) h = some (((r, c, s'), code), h1) ∧ stL 3 ⟨h1.next, 0, none⟩ (mcell r c s') (h1.new (.cells [.int .i64 0, .int .i64 0, .slice none 0 0] 51 true 0)) = some h2 ∧
      (rk n n f = n → r = (n : Int) ∧ c = (n : Int) ∧ code = 0 ∧ MV sb fb h2 h1.next n n s' (invU n f)) ∧ (rk n n f ≠ n → code = 40) ∧ Spc h2 sb fb ∧ Chg (· = fb) h h2 := by
  obtain ⟨h1, X, e, O, S1, c1⟩ := inverse_spec hk S (r := (n : Int)) (c := (n : Int)) A.inm A.len A.ap
  have hp := invP_ok A.r1 A.r2 A.el
  by_cases c : rk n n f = n
  · rw [if_pos c] at hp
    obtain ⟨h2, s', rfl, st, M, S2, c2⟩ := MV.put S O c1 S1 hp A.r1 A.r2 A.r1 A.r2 (invU_El A.r1 A.el)
    exact ⟨h1, h2, _, _, s', 0, e, st, fun _ => ⟨rfl, rfl, rfl, M⟩, fun h => absurd c h, S2, c2⟩
  · rw [if_neg c] at hp
    rw [hp] at O
    obtain ⟨⟨r, q, s'⟩, code⟩ := X
    obtain rfl : code = 40 := O.code
    obtain ⟨h2, st2, k2, n2, b2⟩ := mvar (h := h1) (e := 51) (r := r) (c := q) (s := s')
    exact ⟨h1, h2, r, q, s', 40, e, st2, fun h => absurd h c, fun _ => rfl, S1.keeps k2, c1.trans (Chg.keeps k2)⟩
theorem rankV (hk : 200000 ≤ k0) (S : Spc h sb fb) (A : MV sb fb h b R C s f) :
    ∃ h1, matrix_Space_Rank k0 (DD k0) (some ⟨sb, 0, none⟩) (R, C, s) h = some (((rk R C f : Int), 0), h1) ∧ Spc h1 sb fb ∧ Chg (· = fb) h h1 := by
  have := rank_spec hk S (r := (R : Int)) (c := (C : Int)) A.inm A.len
  rwa [rankP_ok A.r1 A.r2 A.c1 A.c2 A.el] at this
end
end Gy
namespace Gy
open Go Gx Go.Proofs Fe
theorem one_put {g : AHeap} {n : Nat} {e : TypeId} {r c : Int} {s : Slc} : ∃ h2, stL 3 ⟨n, 0, none⟩ (mcell r c s) (g.set n (.cells [.int .i64 0, .int .i64 0, .slice none 0 0] e true 0)) = some h2 ∧ Chg (· = n) g h2 ∧ h2.next = g.next ∧ h2.get n = some (.cells (mcell r c s) e true 0) :=
  ⟨_, stM3 (cs := [.int .i64 0, .int .i64 0, .slice none 0 0]) (e := e) (by simp) rfl, (Chg.set (S := (· = n)) (.inr rfl)).trans (Chg.set (.inr rfl)), by simp, by simp⟩
end Gy
namespace Gy
open Go Gx Go.Proofs Fe
theorem ranks_l0 (k0 : Nat) (D : CallF) {H0 : AHeap} {base ob N bb : Nat} {r c b0 b1 : Int} (hN : N ≤ 1000) (hbase : base ≤ H0.next) (hbb : bb < base) (cb : H0.get bb = some (.cells [.int .i64 b0, .int .i64 b1] 22 true 0)) (s a b : Option Addr) (v : Int) :
    ∀ (m i : Nat) (h : AHeap) (s0 : Slc) (xs : List Int), i + m = N → xs.length = i → xs.all elemB = true → GA H0 base ob r c xs h s0 →
    ∃ h' s' xs', xs'.length = N ∧ xs'.all elemB = true ∧ GA H0 base ob r c xs' h' s' ∧ ∀ J bot, iterK bot (m + 1) (law04_MatrixRanks_l0b k0 D J) (some ⟨bb, 0, none⟩) s a v b (some ⟨ob, 0, none⟩) (N : Int) (i : Int) h = J s a v b (some ⟨ob, 0, none⟩) h' := by
  intro m
  induction m with
  | zero =>
    intro i h s0 xs hi hxl hxa G
    obtain rfl : i = N := by omega
    refine ⟨h, s0, xs, hxl, hxa, G, fun J bot => ?_⟩
    rw [iterK_s, law04_MatrixRanks_l0b]
    exact ifn (by rw [decide_eq_true_eq]; omega) rfl
  | succ m ih =>
    intro i h s0 xs hi hxl hxa G
    have cb1 : h.get bb = some (.cells [.int .i64 b0, .int .i64 b1] 22 true 0) := by rw [G.ch.oth _ (by omega) (by omega)]; exact cb
    have hq : ∃ q x, Gx.idxA 2 1 ⟨bb, 0, none⟩ (Int.tmod (i : Int) 2) = some q ∧ ldI .i64 q h = some x := by
      have e : Int.tmod (i : Int) 2 = ((i % 2 : Nat) : Int) := by rw [Int.tmod_eq_emod_of_nonneg (by omega)]; rfl
      rw [e]
      rcases (show i % 2 = 0 ∨ i % 2 = 1 by omega) with e | e
      · rw [e]; exact ⟨_, b0, idxA_of (by omega), ldI_of cb1 rfl⟩
      · rw [e]; exact ⟨_, b1, idxA_of (by omega), ldI_of cb1 rfl⟩
    obtain ⟨q, x, hq, hld⟩ := hq
    have ea := among_eq (n := 256) (by omega) (by omega) k0 D x h
    have la := amN_lt (n := 256) (by omega) (by omega) x
    obtain ⟨g, s', h1, h2, hg, rd, ap, st, cg, G2⟩ := G.push (amN 256 x : Int) (by omega)
    obtain ⟨h', s'', xs', q1, q2, q3, q4⟩ := ih (i + 1) h2 s' _ (by omega) (by simp; omega) (by rw [List.all_append, hxa]; simp [elemB]; omega) G2
    refine ⟨h', s'', xs', q1, q2, q3, fun J bot => ?_⟩
    have c0 := G.co
    rw [iterK_s, law04_MatrixRanks_l0b]
    refine ifp (by rw [decide_eq_true_eq]; omega) ?_
    with_reducible repeat' first | refine sbn ?_ | refine bnd (ldM3 (by assumption)) ?_ | refine bnd (decM3 _ _ _) ?_ | refine bnd (ldI0 (by assumption)) ?_ | refine bnd (ldI1 (by assumption)) ?_ | refine bnd (ldL2 (by assumption)) ?_ | refine jn ?_ | refine gp1 ?_ ?_ | refine gp2 ?_ ?_ ?_ | refine gp3 ?_ ?_ ?_ ?_ | refine bnd (ldZ0 (by assumption)) ?_ | refine bnd (ldZ1 (by assumption)) ?_ | refine bnd (ldZ2 (by assumption)) ?_ | rfl
    refine bnd hq (bnd hld (bnd ea ?_))
    dsimp only
    rw [← hg]
    with_reducible repeat' first | refine sbn ?_ | refine bnd (ldM3 (by assumption)) ?_ | refine bnd (decM3 _ _ _) ?_ | refine bnd (ldI0 (by assumption)) ?_ | refine bnd (ldI1 (by assumption)) ?_ | refine bnd (ldL2 (by assumption)) ?_ | refine jn ?_ | refine gp1 ?_ ?_ | refine gp2 ?_ ?_ ?_ | refine gp3 ?_ ?_ ?_ ?_ | refine bnd (ldZ0 (by assumption)) ?_ | refine bnd (ldZ1 (by assumption)) ?_ | refine bnd (ldZ2 (by assumption)) ?_ | rfl
    refine bnd rd (bnd ap ?_)
    with_reducible repeat' first | refine sbn ?_ | refine bnd (ldM3 (by assumption)) ?_ | refine bnd (decM3 _ _ _) ?_ | refine bnd (ldI0 (by assumption)) ?_ | refine bnd (ldI1 (by assumption)) ?_ | refine bnd (ldL2 (by assumption)) ?_ | refine jn ?_ | refine gp1 ?_ ?_ | refine gp2 ?_ ?_ ?_ | refine gp3 ?_ ?_ ?_ ?_ | refine bnd (ldZ0 (by assumption)) ?_ | refine bnd (ldZ1 (by assumption)) ?_ | refine bnd (ldZ2 (by assumption)) ?_ | rfl
    refine bnd st ?_
    rw [w1 (by omega)]
    exact q4 J bot
noncomputable def ranksFin (k : Nat) (D : CallF) (byv38 : Option Addr) (s39 : Option Addr) (a40 : Option Addr) (r41 : Int) (h42 : AHeap) : Option (Bool × AHeap) :=
  let h44 := AHeap.resv h42 2
  let h45 := AHeap.set h44 (h42.next + 0) (.cells [] 3 true 0)
  (a40).bind fun p46 =>
  (ldL (⟨p46.block, p46.off + 2, none⟩ : Addr) h45).bind fun x47 =>
  guardP (SameW [h44] (fun H49 => (ldL (⟨p46.block, p46.off + 2, none⟩ : Addr) H49).bind fun y48 => some (.slice y48.a y48.len y48.cap)) (.slice x47.a x47.len x47.cap)) (
  (Gx.rdS 1 x47 h45).bind fun n51 =>
  (appendA 1 8 3 h45 (⟨(some ⟨(h42.next + 0), 0, some 0⟩), 0, 0⟩ : Slc) n51 x47.len).bind fun r50 =>
  (a40).bind fun p52 =>
  (ldI .i64 (⟨p52.block, p52.off + 0, none⟩ : Addr) r50.2).bind fun x53 =>
  guardP (SameW [h45, h44] (fun H55 => (ldI .i64 (⟨p52.block, p52.off + 0, none⟩ : Addr) H55).bind fun y54 => some (.int .i64 y54)) (.int .i64 x53)) (
  (a40).bind fun p56 =>
  (ldI .i64 (⟨p56.block, p56.off + 1, none⟩ : Addr) r50.2).bind fun x57 =>
  guardP (SameW [h45, h44] (fun H59 => (ldI .i64 (⟨p56.block, p56.off + 1, none⟩ : Addr) H59).bind fun y58 => some (.int .i64 y58)) (.int .i64 x57)) (
  let h60 := AHeap.set r50.2 (h42.next + 1) (.cells [.int .i64 0, .int .i64 0, .slice none 0 0] 51 true 0)
  (stL 3 (⟨(h42.next + 1), 0, none⟩ : Addr) ([.int .i64 (IntKind.wrap .i64 (x53 + 1)), .int .i64 x57, .slice r50.1.a r50.1.len r50.1.cap]) h60).bind fun h61 =>
  (a40).bind fun p62 =>
  (ldI .i64 (⟨p62.block, p62.off + 0, none⟩ : Addr) h61).bind fun x63 =>
  let h64 := AHeap.new h61 (.cells [.int .i64 0, .int .i64 0, .slice none 0 0] 51 true 0)
  (stL 3 (⟨h61.next, 0, none⟩ : Addr) ([.int .i64 1, .int .i64 x63, .slice none 0 0]) h64).bind fun h65 =>
  joinK (fun (s66 : Option Addr) (a67 : Option Addr) (r68 : Int) (b69 : Option Addr) (row70 : Option Addr) (h71 : AHeap) =>
  (row70).bind fun p73 =>
  (ldA 3 p73 h71).bind fun l74 =>
  (decC [.i .i64, .i .i64, .l] l74).bind fun x75 =>
  (a67).bind fun p76 =>
  (ldA 3 p76 h71).bind fun l77 =>
  (decC [.i .i64, .i .i64, .l] l77).bind fun x78 =>
  (matrix_Space_Mul k D s66 (x75.1, x75.2.1, x75.2.2) (x78.1, x78.2.1, x78.2.2) h71).bind fun r79 =>
  let h80 := AHeap.new r79.2 (.cells [.int .i64 0, .int .i64 0, .slice none 0 0] 51 true 0)
  (stL 3 (⟨r79.2.next, 0, none⟩ : Addr) ([.int .i64 r79.1.1.1, .int .i64 r79.1.1.2.1, .slice r79.1.1.2.2.a r79.1.1.2.2.len r79.1.1.2.2.cap]) h80).bind fun h81 =>
  (b69).bind fun p82 =>
  (ldL (⟨p82.block, p82.off + 2, none⟩ : Addr) h81).bind fun x83 =>
  (ldL (⟨r79.2.next, 2, none⟩ : Addr) h81).bind fun x84 =>
  (Gx.rdS 1 x84 h81).bind fun n86 =>
  (appendA 1 8 3 h81 x83 n86 x84.len).bind fun r85 =>
  (b69).bind fun p87 =>
  (st1 (⟨p87.block, p87.off + 2, none⟩ : Addr) (.slice r85.1.a r85.1.len r85.1.cap) r85.2).bind fun h88 =>
  (b69).bind fun p89 =>
  (ldA 3 p89 h88).bind fun l90 =>
  (decC [.i .i64, .i .i64, .l] l90).bind fun x91 =>
  (matrix_Space_Rank k D s66 (x91.1, x91.2.1, x91.2.2) h88).bind fun r92 =>
  (if (r79.1.2 == 0) = true then
  (if (r92.1.2 == 0) = true then
  some ((r92.1.1 == r68), r92.2)
  else
  some (false, r92.2))
  else
  some (false, r92.2))) fun j72 =>
  (a40).bind fun p93 =>
  (ldI .i64 (⟨p93.block, p93.off + 0, none⟩ : Addr) h65).bind fun x94 =>
  law04_MatrixRanks_l0 k D j72 byv38 s39 a40 r41 (some (⟨(h42.next + 1), 0, none⟩ : Addr)) (some (⟨h61.next, 0, none⟩ : Addr)) x94 0 h65)))
set_option maxHeartbeats 2000000 in
theorem ranks_true {k0 : Nat} (hk : 200000 ≤ k0) {h : AHeap} {z0 z1 b0 b1 : Int} {l : Slc} {ls : List Int} (Rl : Row encI h l ls) (hlen : ls.length < 4611686018427387904)
    (ll : ∀ a, l.a = some a → a.block < h.next) : ∃ h', law04_MatrixRanks k0 (DD k0) (z0, z1) l (b0, b1) h = some (true, h') := by
  obtain ⟨g0, hg0⟩ : ∃ g0, g0 = h.new (.cells [.int .i64 z0, .int .i64 z1] 22 true 0) := ⟨_, rfl⟩
  have k0' : Keeps h g0 := hg0 ▸ Keeps.new h _
  have n0 : g0.next = h.next + 1 := by rw [hg0]; rfl
  obtain ⟨g1, hg1⟩ : ∃ g1, g1 = g0.new (.cells [.int .i64 b0, .int .i64 b1] 22 true 0) := ⟨_, rfl⟩
  have k1 : Keeps g0 g1 := hg1 ▸ Keeps.new g0 _
  have n1 : g1.next = g0.next + 1 := by rw [hg1]; rfl
  have p1 : g1.get h.next = some (.cells [.int .i64 z0, .int .i64 z1] 22 true 0) := by rw [k1.oth _ (by omega) (fun f => f), hg0]; simp
  have b1' : g1.get g0.next = some (.cells [.int .i64 b0, .int .i64 b1] 22 true 0) := by rw [hg1]; simp
  obtain ⟨g2, e2, k2, S2, n2⟩ := mnew_spec k0 (DD k0) g1
  obtain ⟨g3, e3, k3⟩ := works4_spec (k0 := k0) (by omega) g2
  have nx3 := k3.nx
  have k03 := (k0'.trans k1).trans (k2.trans k3)
  have p3 : g3.get h.next = some (.cells [.int .i64 z0, .int .i64 z1] 22 true 0) := by rw [(k2.trans k3).oth _ (by omega) (fun f => f)]; exact p1
  have b3 : g3.get g0.next = some (.cells [.int .i64 b0, .int .i64 b1] 22 true 0) := by rw [(k2.trans k3).oth _ (by omega) (fun f => f)]; exact b1'
  obtain ⟨R, C, f, g4, sa, hR, hC, e4, k4, Ef, I4, l4⟩ := made_spec hk (DD k0) (Rl.keeps k03) hlen (fun a ha => by have := ll a ha; omega) z0 z1
  have am0 := amN_lt (n := 5) (by omega) (by omega) z0
  have am1 := amN_lt (n := 5) (by omega) (by omega) z1
  have nx4 := k4.nx
  obtain ⟨g5, st5, k5, n5, b5⟩ := mvar (h := g4) (e := 51) (r := (R : Int)) (c := (C : Int)) (s := sa)
  have k35 := k4.trans k5
  have S5 := ((S2.keeps k3).keeps k35)
  have A5 : MV (g1.next + 1) g1.next g5 g4.next R C sa f := ⟨b5, by omega, by omega, I4.keeps k5, fun a ha => by have := l4 a ha; omega, by omega, by omega, by omega, by omega, Ef⟩
  obtain ⟨t1, t2, s_1, x1, y1, V1, S1', q1⟩ := turnV hk (DD k0) S5 A5
  obtain ⟨t3, x2, S2', q2⟩ := rankV hk S1' (A5.chg q1)
  obtain ⟨t4, x3, S3', q3⟩ := rankV hk S2' (V1.chg q2)
  have hrk : rk C R (turnF R C f) = rk R C f := rk_tr (by omega) (by omega) Ef (turn_El (by omega) Ef) Vw_turn
  rw [hrk] at x3
  have hrC : rk R C f ≤ C := rk_le
  obtain ⟨_, _, _, _, GS, _⟩ := gauss (R := R) (C := C) (g := f) (by omega) Ef
  have hrR := GS.rR
  have qa : Chg (· = g1.next) g5 t4 := (q1.trans q2).trans q3
  have A4 := A5.chg qa
  have za5 := A5.cel
  have za2 := (A5.chg q1).cel
  have zv3 := (V1.chg q2).cel
  have za4 := A4.cel
  have c0t4 : Chg (· = g1.next) g3 t4 := (Chg.keeps k35).trans qa
  have bt4 : t4.get g0.next = some (.cells [.int .i64 b0, .int .i64 b1] 22 true 0) := by rw [c0t4.oth _ (by omega) (by omega)]; exact b3
  have nxt4 := c0t4.nx
  have nq := qa.nx
  have rest : ∀ (g : AHeap), Chg (· = g1.next) t4 g → Spc g (g1.next + 1) g1.next → ∃ h', ranksFin k0 (DD k0) (some ⟨g0.next, 0, none⟩) (some ⟨g1.next + 1, 0, none⟩) (some ⟨g4.next, 0, none⟩) (rk R C f : Int) g = some (true, h') := fun g cg Sg => by
    have A := A4.chg cg
    have za := A.cel
    have nxg := cg.nx
    have bg : g.get g0.next = some (.cells [.int .i64 b0, .int .i64 b1] 22 true 0) := by rw [cg.oth _ (by omega) (by omega)]; exact bt4
    obtain ⟨n, hn⟩ : ∃ n, n = g.next := ⟨_, rfl⟩
    obtain ⟨i1, hi1⟩ : ∃ i1, i1 = g.resv 2 := ⟨_, rfl⟩
    have ni1 : i1.next = n + 2 := by rw [hi1, hn]; rfl
    have ki1 : Keeps g i1 := hi1 ▸ ⟨Nat.le_add_right _ _, fun _ _ _ => rfl⟩
    obtain ⟨i2, hi2⟩ : ∃ i2, i2 = i1.set n (.cells [] 3 true 0) := ⟨_, rfl⟩
    have ci2 : Chg (· = n) i1 i2 := hi2 ▸ Chg.set (.inr rfl)
    have ni2 : i2.next = n + 2 := by rw [hi2]; exact ni1
    have kg2 : Keeps g i2 := ki1.beh ci2 fun x hx e => by have e : x = n := e; omega
    have lt4 := A.lt
    have za1 : i1.get g4.next = some (.cells (mcell R C sa) 51 true 0) := by rw [ki1.oth _ lt4 (fun f => f)]; exact za
    have za2' : i2.get g4.next = some (.cells (mcell R C sa) 51 true 0) := by rw [kg2.oth _ lt4 (fun f => f)]; exact za
    have rd := Row.rdS (A.inm.row.keeps kg2)
    have slen : sa.len = (matN (R * C) f).length := A.inm.row.1
    have hRC : R * C ≤ 5 * 5 := Nat.mul_le_mul (by omega) (by omega)
    have ml : (matN (R * C) f).length = R * C := mat_length _ _
    obtain ⟨s3, i3, ap3, G3, c3, n3⟩ := (Gl.zero (base := n) (b0 := n) (h := i2) (by omega) (Nat.le_refl _)).append (ys := matN (R * C) f) (by rw [ml]; simp; omega) (by omega)
    rw [List.nil_append] at G3
    have nx3' := c3.nx
    have kg3 : Keeps g i3 := kg2.beh c3 fun x hx ⟨a, ha, e⟩ => by cases ha; have e : x = n := e; omega
    have za3 : i3.get g4.next = some (.cells (mcell R C sa) 51 true 0) := by rw [kg3.oth _ lt4 (fun f => f)]; exact za
    obtain ⟨i4, st4, c4, n4, bo⟩ := one_put (g := i3) (n := n + 1) (e := 51) (r := ((R + 1 : Nat) : Int)) (c := (C : Int)) (s := s3)
    have s3ne : ∀ a, s3.a = some a → n ≤ a.block ∧ a.block < i3.next ∧ a.block ≠ n + 1 := fun a ha => by
      have h1 := G3.lt a ha
      have h2 := n3 a ha
      rcases h2 with h2 | ⟨b, hb, e⟩
      · omega
      · cases hb; have e : a.block = n := e; omega
    have G4 : Gl n i4 s3 (matN (R * C) f) := G3.chg c4 fun a ha => (s3ne a ha).2.2
    have kg4 : Keeps g i4 := kg3.beh c4 fun x hx e => by have e : x = n + 1 := e; omega
    have za4' : i4.get g4.next = some (.cells (mcell R C sa) 51 true 0) := by rw [kg4.oth _ lt4 (fun f => f)]; exact za
    obtain ⟨i5, st5', k5', n5', bo5⟩ := mvar (h := i4) (e := 51) (r := 1) (c := (R : Int)) (s := nilS)
    have kg5 := kg4.trans k5'
    have za5' : i5.get g4.next = some (.cells (mcell R C sa) 51 true 0) := by rw [kg5.oth _ lt4 (fun f => f)]; exact za
    obtain ⟨i6, s6, ws, qw1, qw2, G6, e6⟩ := ranks_l0 k0 (DD k0) (H0 := i5) (base := i4.next) (ob := i4.next) (N := R) (bb := g0.next) (r := 1) (c := (R : Int)) (b0 := b0) (b1 := b1) (by omega) (by omega) (by omega)
      (by rw [kg5.oth _ (by omega) (fun f => f)]; exact bg) (some ⟨g1.next + 1, 0, none⟩) (some ⟨g4.next, 0, none⟩) (some ⟨n + 1, 0, none⟩) (rk R C f : Int) R 0 i5 nilS [] (by omega) rfl rfl ⟨.refl _ _, bo5, by omega, Nat.le_refl _, .nil _ _, fun a ha => by cases ha⟩
    obtain ⟨ew, Ew⟩ := all_mat qw1 qw2
    have ch6 := G6.ch
    have nx6 := ch6.nx
    have cg6 : Keeps g i6 := kg5.beh ch6 fun x hx e => by have e : i4.next ≤ x := e; omega
    have S6 := Sg.keeps cg6
    have A6 := A.keeps cg6
    have lo6 := G6.lo
    have g1lt := S2.lf
    have W6 : MV (g1.next + 1) g1.next i6 i4.next 1 R s6 (natOf ws) := ⟨by have := G6.co; exact this, lo6, by omega, by rw [Nat.one_mul, ← ew]; exact G6.gl.inM, fun a ha => by have := G6.gl.lt a ha; omega, by omega, by omega, by omega, by omega, by rw [Nat.one_mul]; exact Ew⟩
    obtain ⟨j1, j2, s7, x7, y7, V7, S7, q7⟩ := mulV hk S6 W6 A6
    have nx7 := q7.nx
    have bo6 : i6.get (n + 1) = some (.cells (mcell ((R + 1 : Nat) : Int) C s3) 51 true 0) := by rw [(Chg.trans (S := fun x => i4.next ≤ x) (Chg.keeps k5') ch6).oth _ (by omega) (by omega)]; exact bo
    have bo7 : j2.get (n + 1) = some (.cells (mcell ((R + 1 : Nat) : Int) C s3) 51 true 0) := by rw [q7.oth _ (by omega) (by omega)]; exact bo6
    have G7 : Gl n j2 s3 (matN (R * C) f) := (G4.chg (Chg.trans (S := fun x => i4.next ≤ x) (Chg.keeps k5') ch6) fun a ha => by have := s3ne a ha; omega).chg q7 fun a ha => by have := s3ne a ha; omega
    have rd7 := Row.rdS V7.inm.row
    have sl7 : s7.len = (matN (1 * C) (mulG R C (natOf ws) f)).length := V7.inm.row.1
    have ml7 : (matN (1 * C) (mulG R C (natOf ws) f)).length = C := by rw [show (matN (1 * C) (mulG R C (natOf ws) f)).length = 1 * C from mat_length _ _, Nat.one_mul]
    obtain ⟨s8, j3, ap8, G8, c8, n8⟩ := G7.append (ys := matN (1 * C) (mulG R C (natOf ws) f)) (by rw [ml, ml7]; omega) (by omega)
    have s8ne : ∀ a, s8.a = some a → n ≤ a.block ∧ a.block < j3.next ∧ a.block ≠ n + 1 := fun a ha => by
      have h1 := G8.lt a ha
      have h2 := n8 a ha
      rcases h2 with h2 | ⟨b, hb, e⟩
      · omega
      · have := s3ne b hb; omega
    have nx8 := c8.nx
    have bo8 : j3.get (n + 1) = some (.cells (mcell ((R + 1 : Nat) : Int) C s3) 51 true 0) := by rw [c8.oth _ (by omega) (fun ⟨a, ha, e⟩ => (s3ne a ha).2.2 e.symm)]; exact bo7
    obtain ⟨j4, hj4⟩ : ∃ j4, j4 = j3.set (n + 1) (.cells (mcell ((R + 1 : Nat) : Int) C s8) 51 true 0) := ⟨_, rfl⟩
    have st8 : st1 ⟨n + 1, 2, none⟩ (.slice s8.a s8.len s8.cap) j3 = some j4 := by rw [hj4]; exact stS2 bo8
    have cj4 : Chg (· = n + 1) j3 j4 := hj4 ▸ Chg.set (.inr rfl)
    obtain ⟨F, hF⟩ : ∃ F : Nat → Nat, F = fun t => if t < R * C then f t else mulG R C (natOf ws) f (t - R * C) := ⟨_, rfl⟩
    have Flo : ∀ t, t < R * C → F t = f t := fun t ht => by rw [hF]; exact if_pos ht
    have Fhi : ∀ x, F (R * C + x) = mulG R C (natOf ws) f x := fun x => by rw [hF]; show (if R * C + x < R * C then _ else _) = _; rw [if_neg (by omega), Nat.add_sub_cancel_left]
    have lF : matN (R * C) f ++ matN (1 * C) (mulG R C (natOf ws) f) = matN ((R + 1) * C) F := by
      rw [Nat.one_mul, ← matN_row (F := F) (u := mulG R C (natOf ws) f) (fun x _ => Fhi x), matN_ext fun t ht => Flo t ht]
    have EF : El ((R + 1) * C) F := fun t ht => by
      rw [hF]
      show (if t < R * C then _ else _) < 256
      split
      · exact Ef t (by assumption)
      · exact dotN_lt _ _ _ _ _ _ _
    rw [lF] at G8
    have B8 : MV (g1.next + 1) g1.next j4 (n + 1) (R + 1) C s8 F := ⟨by rw [hj4]; simp, by have := cj4.nx; omega, by omega, (G8.chg cj4 fun a ha => (s8ne a ha).2.2).inM, fun a ha => by have := s8ne a ha; omega, by omega, by omega, by omega, by omega, EF⟩
    have cj : Keeps i6 j4 ∨ True := .inr trivial
    have S8 : Spc j4 (g1.next + 1) g1.next := (S7.chg c8 (fun ⟨a, ha, e⟩ => by have := s3ne a ha; omega) (fun ⟨a, ha, e⟩ => by have := s3ne a ha; omega)).chg cj4 (by omega) (by omega)
    obtain ⟨j5, x9, S9, q9⟩ := rankV hk S8 B8
    have hrow : rk (R + 1) C F = rk R C f := rk_row (by omega) Ef EF (fun i j hi hj => by
        show of (F (i * C + j)) = of (f (i * C + j))
        rw [Flo _ (pos_lt hi hj)]) (fun k => of (natOf ws k)) (fun c hc => by
        show of (F (R * C + c)) = _
        rw [Fhi]
        have := Vw_mul (R := 1) (C := R) (C2 := C) (a := natOf ws) (b := f) (by rw [Nat.one_mul]; exact Ew) Ef 0 c (by omega) hc
        unfold Vw at this
        rw [Nat.zero_mul, Nat.zero_add] at this
        rw [this]
        exact sm_congr fun k _ => by
          show of (natOf ws (0 * R + k)) * of (f (k * C + c)) = _
          rw [Nat.zero_mul, Nat.zero_add]; rfl)
    rw [hrow] at x9
    have zw := W6.cel
    have za6 := A6.cel
    have zv7 := V7.cel
    have zb8 := B8.cel
    refine ⟨j5, ?_⟩
    unfold ranksFin
    dsimp only
    rw [← hi1, ← hn, show n + 0 = n from rfl, ← hi2]
    with_reducible repeat' first | refine sbn ?_ | refine bnd (ldM3 (by assumption)) ?_ | refine bnd (decM3 _ _ _) ?_ | refine bnd (ldI0 (by assumption)) ?_ | refine bnd (ldI1 (by assumption)) ?_ | refine bnd (ldL2 (by assumption)) ?_ | refine jn ?_ | refine gp1 ?_ ?_ | refine gp2 ?_ ?_ ?_ | refine gp3 ?_ ?_ ?_ ?_ | refine bnd (ldZ0 (by assumption)) ?_ | refine bnd (ldZ1 (by assumption)) ?_ | refine bnd (ldZ2 (by assumption)) ?_ | rfl
    refine bnd rd ?_
    rw [slen]
    refine bnd ap3 ?_
    with_reducible repeat' first | refine sbn ?_ | refine bnd (ldM3 (by assumption)) ?_ | refine bnd (decM3 _ _ _) ?_ | refine bnd (ldI0 (by assumption)) ?_ | refine bnd (ldI1 (by assumption)) ?_ | refine bnd (ldL2 (by assumption)) ?_ | refine jn ?_ | refine gp1 ?_ ?_ | refine gp2 ?_ ?_ ?_ | refine gp3 ?_ ?_ ?_ ?_ | refine bnd (ldZ0 (by assumption)) ?_ | refine bnd (ldZ1 (by assumption)) ?_ | refine bnd (ldZ2 (by assumption)) ?_ | rfl
    rw [w1 (by omega)]
    refine bnd st4 ?_
    with_reducible repeat' first | refine sbn ?_ | refine bnd (ldM3 (by assumption)) ?_ | refine bnd (decM3 _ _ _) ?_ | refine bnd (ldI0 (by assumption)) ?_ | refine bnd (ldI1 (by assumption)) ?_ | refine bnd (ldL2 (by assumption)) ?_ | refine jn ?_ | refine gp1 ?_ ?_ | refine gp2 ?_ ?_ ?_ | refine gp3 ?_ ?_ ?_ ?_ | refine bnd (ldZ0 (by assumption)) ?_ | refine bnd (ldZ1 (by assumption)) ?_ | refine bnd (ldZ2 (by assumption)) ?_ | rfl
    refine bnd st5' ?_
    with_reducible repeat' first | refine sbn ?_ | refine bnd (ldM3 (by assumption)) ?_ | refine bnd (decM3 _ _ _) ?_ | refine bnd (ldI0 (by assumption)) ?_ | refine bnd (ldI1 (by assumption)) ?_ | refine bnd (ldL2 (by assumption)) ?_ | refine jn ?_ | refine gp1 ?_ ?_ | refine gp2 ?_ ?_ ?_ | refine gp3 ?_ ?_ ?_ ?_ | refine bnd (ldZ0 (by assumption)) ?_ | refine bnd (ldZ1 (by assumption)) ?_ | refine bnd (ldZ2 (by assumption)) ?_ | rfl
    unfold law04_MatrixRanks_l0
    obtain ⟨bot, hbot⟩ := iterK_of (fun _ _ _ _ _ _ _ _ _ => none) (law04_MatrixRanks_l0b k0 (DD k0) _) (show R + 1 ≤ k0 by omega)
    rw [hbot]
    refine (e6 _ bot).trans ?_
    with_reducible repeat' first | refine sbn ?_ | refine bnd (ldM3 (by assumption)) ?_ | refine bnd (decM3 _ _ _) ?_ | refine bnd (ldI0 (by assumption)) ?_ | refine bnd (ldI1 (by assumption)) ?_ | refine bnd (ldL2 (by assumption)) ?_ | refine jn ?_ | refine gp1 ?_ ?_ | refine gp2 ?_ ?_ ?_ | refine gp3 ?_ ?_ ?_ ?_ | refine bnd (ldZ0 (by assumption)) ?_ | refine bnd (ldZ1 (by assumption)) ?_ | refine bnd (ldZ2 (by assumption)) ?_ | rfl
    refine bnd x7 (bnd y7 ?_)
    with_reducible repeat' first | refine sbn ?_ | refine bnd (ldM3 (by assumption)) ?_ | refine bnd (decM3 _ _ _) ?_ | refine bnd (ldI0 (by assumption)) ?_ | refine bnd (ldI1 (by assumption)) ?_ | refine bnd (ldL2 (by assumption)) ?_ | refine jn ?_ | refine gp1 ?_ ?_ | refine gp2 ?_ ?_ ?_ | refine gp3 ?_ ?_ ?_ ?_ | refine bnd (ldZ0 (by assumption)) ?_ | refine bnd (ldZ1 (by assumption)) ?_ | refine bnd (ldZ2 (by assumption)) ?_ | rfl
    refine bnd rd7 ?_
    rw [sl7]
    refine bnd ap8 ?_
    with_reducible repeat' first | refine sbn ?_ | refine bnd (ldM3 (by assumption)) ?_ | refine bnd (decM3 _ _ _) ?_ | refine bnd (ldI0 (by assumption)) ?_ | refine bnd (ldI1 (by assumption)) ?_ | refine bnd (ldL2 (by assumption)) ?_ | refine jn ?_ | refine gp1 ?_ ?_ | refine gp2 ?_ ?_ ?_ | refine gp3 ?_ ?_ ?_ ?_ | refine bnd (ldZ0 (by assumption)) ?_ | refine bnd (ldZ1 (by assumption)) ?_ | refine bnd (ldZ2 (by assumption)) ?_ | rfl
    refine bnd st8 ?_
    with_reducible repeat' first | refine sbn ?_ | refine bnd (ldM3 (by assumption)) ?_ | refine bnd (decM3 _ _ _) ?_ | refine bnd (ldI0 (by assumption)) ?_ | refine bnd (ldI1 (by assumption)) ?_ | refine bnd (ldL2 (by assumption)) ?_ | refine jn ?_ | refine gp1 ?_ ?_ | refine gp2 ?_ ?_ ?_ | refine gp3 ?_ ?_ ?_ ?_ | refine bnd (ldZ0 (by assumption)) ?_ | refine bnd (ldZ1 (by assumption)) ?_ | refine bnd (ldZ2 (by assumption)) ?_ | rfl
    refine bnd x9 (ifp (by simp) (ifp (by simp) ?_))
    simp
  have pre : ∀ {X : AHeap}, ((some (⟨g4.next, 0, none⟩ : Addr)).bind fun p118 => (ldI .i64 (⟨p118.block, p118.off + 0, none⟩ : Addr) t4).bind fun x119 => (some (⟨g4.next, 0, none⟩ : Addr)).bind fun p120 => (ldI .i64 (⟨p120.block, p120.off + 1, none⟩ : Addr) t4).bind fun x121 =>
      (if (x119 == x121) = true then (some (⟨g4.next, 0, none⟩ : Addr)).bind fun p122 => (ldA 3 p122 t4).bind fun l123 => (decC [.i .i64, .i .i64, .l] l123).bind fun x124 => (matrix_Space_Inverse k0 (DD k0) (some ⟨g1.next + 1, 0, none⟩) (x124.1, x124.2.1, x124.2.2) t4).bind fun r125 =>
      (stL 3 (⟨r125.2.next, 0, none⟩ : Addr) ([.int .i64 r125.1.1.1, .int .i64 r125.1.1.2.1, .slice r125.1.1.2.2.a r125.1.1.2.2.len r125.1.1.2.2.cap]) (AHeap.new r125.2 (.cells [.int .i64 0, .int .i64 0, .slice none 0 0] 51 true 0))).bind fun h127 =>
      (some (⟨g4.next, 0, none⟩ : Addr)).bind fun p128 => (ldI .i64 (⟨p128.block, p128.off + 0, none⟩ : Addr) h127).bind fun x129 =>
      (if (!((r125.1.2 == 0) == ((rk R C f : Int) == x129))) = true then some (false, h127) else ranksFin k0 (DD k0) (some ⟨g0.next, 0, none⟩) (some ⟨g1.next + 1, 0, none⟩) (some ⟨g4.next, 0, none⟩) (rk R C f : Int) h127)
      else ranksFin k0 (DD k0) (some ⟨g0.next, 0, none⟩) (some ⟨g1.next + 1, 0, none⟩) (some ⟨g4.next, 0, none⟩) (rk R C f : Int) t4)) = some (true, X) → law04_MatrixRanks k0 (DD k0) (z0, z1) l (b0, b1) h = some (true, X) := fun {X} hX => by
    unfold law04_MatrixRanks
    dsimp only
    rw [← hg0, ← hg1]
    refine bnd e2 ?_
    with_reducible repeat' first | refine sbn ?_ | refine bnd (ldM3 (by assumption)) ?_ | refine bnd (decM3 _ _ _) ?_ | refine bnd (ldI0 (by assumption)) ?_ | refine bnd (ldI1 (by assumption)) ?_ | refine bnd (ldL2 (by assumption)) ?_ | refine jn ?_ | refine gp1 ?_ ?_ | refine gp2 ?_ ?_ ?_ | refine gp3 ?_ ?_ ?_ ?_ | refine bnd (ldZ0 (by assumption)) ?_ | refine bnd (ldZ1 (by assumption)) ?_ | refine bnd (ldZ2 (by assumption)) ?_ | rfl
    refine ifn (by simp) (bnd e3 ?_)
    refine ifn (by simp) ?_
    with_reducible repeat' first | refine sbn ?_ | refine bnd (ldM3 (by assumption)) ?_ | refine bnd (decM3 _ _ _) ?_ | refine bnd (ldI0 (by assumption)) ?_ | refine bnd (ldI1 (by assumption)) ?_ | refine bnd (ldL2 (by assumption)) ?_ | refine jn ?_ | refine gp1 ?_ ?_ | refine gp2 ?_ ?_ ?_ | refine gp3 ?_ ?_ ?_ ?_ | refine bnd (ldZ0 (by assumption)) ?_ | refine bnd (ldZ1 (by assumption)) ?_ | refine bnd (ldZ2 (by assumption)) ?_ | rfl
    refine bnd e4 (bnd st5 ?_)
    with_reducible repeat' first | refine sbn ?_ | refine bnd (ldM3 (by assumption)) ?_ | refine bnd (decM3 _ _ _) ?_ | refine bnd (ldI0 (by assumption)) ?_ | refine bnd (ldI1 (by assumption)) ?_ | refine bnd (ldL2 (by assumption)) ?_ | refine jn ?_ | refine gp1 ?_ ?_ | refine gp2 ?_ ?_ ?_ | refine gp3 ?_ ?_ ?_ ?_ | refine bnd (ldZ0 (by assumption)) ?_ | refine bnd (ldZ1 (by assumption)) ?_ | refine bnd (ldZ2 (by assumption)) ?_ | rfl
    refine bnd x1 (bnd y1 ?_)
    with_reducible repeat' first | refine sbn ?_ | refine bnd (ldM3 (by assumption)) ?_ | refine bnd (decM3 _ _ _) ?_ | refine bnd (ldI0 (by assumption)) ?_ | refine bnd (ldI1 (by assumption)) ?_ | refine bnd (ldL2 (by assumption)) ?_ | refine jn ?_ | refine gp1 ?_ ?_ | refine gp2 ?_ ?_ ?_ | refine gp3 ?_ ?_ ?_ ?_ | refine bnd (ldZ0 (by assumption)) ?_ | refine bnd (ldZ1 (by assumption)) ?_ | refine bnd (ldZ2 (by assumption)) ?_ | rfl
    refine bnd x2 ?_
    with_reducible repeat' first | refine sbn ?_ | refine bnd (ldM3 (by assumption)) ?_ | refine bnd (decM3 _ _ _) ?_ | refine bnd (ldI0 (by assumption)) ?_ | refine bnd (ldI1 (by assumption)) ?_ | refine bnd (ldL2 (by assumption)) ?_ | refine jn ?_ | refine gp1 ?_ ?_ | refine gp2 ?_ ?_ ?_ | refine gp3 ?_ ?_ ?_ ?_ | refine bnd (ldZ0 (by assumption)) ?_ | refine bnd (ldZ1 (by assumption)) ?_ | refine bnd (ldZ2 (by assumption)) ?_ | rfl
    refine bnd x3 ?_
    with_reducible repeat' first | refine sbn ?_ | refine bnd (ldM3 (by assumption)) ?_ | refine bnd (decM3 _ _ _) ?_ | refine bnd (ldI0 (by assumption)) ?_ | refine bnd (ldI1 (by assumption)) ?_ | refine bnd (ldL2 (by assumption)) ?_ | refine jn ?_ | refine gp1 ?_ ?_ | refine gp2 ?_ ?_ ?_ | refine gp3 ?_ ?_ ?_ ?_ | refine bnd (ldZ0 (by assumption)) ?_ | refine bnd (ldZ1 (by assumption)) ?_ | refine bnd (ldZ2 (by assumption)) ?_ | rfl
    refine ifn (by simp) (ifn (by simp) (ifn (by simp) (ifn (by simp) ?_)))
    with_reducible repeat' first | refine sbn ?_ | refine bnd (ldM3 (by assumption)) ?_ | refine bnd (decM3 _ _ _) ?_ | refine bnd (ldI0 (by assumption)) ?_ | refine bnd (ldI1 (by assumption)) ?_ | refine bnd (ldL2 (by assumption)) ?_ | refine jn ?_ | refine gp1 ?_ ?_ | refine gp2 ?_ ?_ ?_ | refine gp3 ?_ ?_ ?_ ?_ | refine bnd (ldZ0 (by assumption)) ?_ | refine bnd (ldZ1 (by assumption)) ?_ | refine bnd (ldZ2 (by assumption)) ?_ | rfl
    refine ifn (by dsimp only; rw [decide_eq_true_eq]; split <;> omega) ?_
    exact hX
  by_cases sq : R = C
  · subst sq
    obtain ⟨v1, v2, ra, ca, s_9, cA, x11, y11, okA, noA, S11, q11⟩ := invV hk S3' A4
    obtain ⟨h', e⟩ := rest v2 q11 S11
    have za11 := (A4.chg q11).cel
    refine ⟨h', pre ?_⟩
    with_reducible repeat' first | refine sbn ?_ | refine bnd (ldM3 (by assumption)) ?_ | refine bnd (decM3 _ _ _) ?_ | refine bnd (ldI0 (by assumption)) ?_ | refine bnd (ldI1 (by assumption)) ?_ | refine bnd (ldL2 (by assumption)) ?_ | refine jn ?_ | refine gp1 ?_ ?_ | refine gp2 ?_ ?_ ?_ | refine gp3 ?_ ?_ ?_ ?_ | refine bnd (ldZ0 (by assumption)) ?_ | refine bnd (ldZ1 (by assumption)) ?_ | refine bnd (ldZ2 (by assumption)) ?_ | rfl
    refine ifp (by simp) ?_
    with_reducible repeat' first | refine sbn ?_ | refine bnd (ldM3 (by assumption)) ?_ | refine bnd (decM3 _ _ _) ?_ | refine bnd (ldI0 (by assumption)) ?_ | refine bnd (ldI1 (by assumption)) ?_ | refine bnd (ldL2 (by assumption)) ?_ | refine jn ?_ | refine gp1 ?_ ?_ | refine gp2 ?_ ?_ ?_ | refine gp3 ?_ ?_ ?_ ?_ | refine bnd (ldZ0 (by assumption)) ?_ | refine bnd (ldZ1 (by assumption)) ?_ | refine bnd (ldZ2 (by assumption)) ?_ | rfl
    refine bnd x11 (bnd y11 ?_)
    with_reducible repeat' first | refine sbn ?_ | refine bnd (ldM3 (by assumption)) ?_ | refine bnd (decM3 _ _ _) ?_ | refine bnd (ldI0 (by assumption)) ?_ | refine bnd (ldI1 (by assumption)) ?_ | refine bnd (ldL2 (by assumption)) ?_ | refine jn ?_ | refine gp1 ?_ ?_ | refine gp2 ?_ ?_ ?_ | refine gp3 ?_ ?_ ?_ ?_ | refine bnd (ldZ0 (by assumption)) ?_ | refine bnd (ldZ1 (by assumption)) ?_ | refine bnd (ldZ2 (by assumption)) ?_ | rfl
    refine ifn ?_ e
    by_cases cf : rk R R f = R
    · obtain ⟨_, _, rfl, _⟩ := okA cf
      simp [cf]
    · rw [noA cf]
      simp
      omega
  · obtain ⟨h', e⟩ := rest t4 (.refl _ _) S3'
    refine ⟨h', pre ?_⟩
    with_reducible repeat' first | refine sbn ?_ | refine bnd (ldM3 (by assumption)) ?_ | refine bnd (decM3 _ _ _) ?_ | refine bnd (ldI0 (by assumption)) ?_ | refine bnd (ldI1 (by assumption)) ?_ | refine bnd (ldL2 (by assumption)) ?_ | refine jn ?_ | refine gp1 ?_ ?_ | refine gp2 ?_ ?_ ?_ | refine gp3 ?_ ?_ ?_ ?_ | refine bnd (ldZ0 (by assumption)) ?_ | refine bnd (ldZ1 (by assumption)) ?_ | refine bnd (ldZ2 (by assumption)) ?_ | rfl
    refine ifn (by simp; omega) e
end Gy
