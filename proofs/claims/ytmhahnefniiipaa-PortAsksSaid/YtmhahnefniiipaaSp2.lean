import Derived.Test.YtmhahnefniiipaaSp1
namespace Gs
open Go Gx
structure LR (h : AHeap) (kb : Nat) (l : Slc) (ac : Nat) (z : Rz) : Prop where
 blk : ∃ s t : Slc, h.get kb = some (.cells [.slice l.a l.len l.cap, .int .i64 ac, .int .i64 z.code, .string ⟨#[]⟩, .int .i64 z.n, .slice s.a s.len s.cap, .slice t.a t.len t.cap, .slice none 0 0, .slice none 0 0] 62 true 0) ∧ AccV 1 encS1 9 (kb + 1) h s z.ids ∧ AccV 1 encS1 9 (kb + 1) h t z.texts
 lt : kb < h.next
theorem LR.keeps {h h' : AHeap} {kb : Nat} {l : Slc} {ac : Nat} {z : Rz} (L : LR h kb l ac z) (k : Keeps h h') : LR h' kb l ac z := by
 obtain ⟨s, t, hb, A, B⟩ := L.blk
 exact ⟨⟨s, t, (k.oth _ L.lt fun f => f).trans hb, A.keeps k, B.keeps k⟩, Nat.lt_of_lt_of_le L.lt k.nx⟩
theorem LR.below {S : Nat → Prop} {h h' : AHeap} {kb : Nat} {l : Slc} {ac : Nat} {z : Rz} (L : LR h kb l ac z) (k : Chg S h h') (hS : ∀ y, S y → y < kb) : LR h' kb l ac z := by
 obtain ⟨s, t, hb, A, B⟩ := L.blk
 have nS : ∀ {y}, kb ≤ y → ¬ S y := fun h z => by have := hS _ z; omega
 exact ⟨⟨s, t, (k.oth _ L.lt (nS (Nat.le_refl _))).trans hb, A.chg k fun a ha => nS (by have := (A.lt a ha).2; omega), B.chg k fun a ha => nS (by have := (B.lt a ha).2; omega)⟩, Nat.lt_of_lt_of_le L.lt k.nx⟩
theorem copy_app {h15 : AHeap} {base b0 : Nat} {s : Slc} {xs : List ByteArray} (A : AccV 1 encS1 9 base h15 s xs) (hb : base ≤ b0) (hl : b0 < h15.next) (hx : xs.length ≤ 1099511627776) :
  ∃ s' h', appendA 1 16 9 h15 (⟨some ⟨b0, 0, some 0⟩, 0, 0⟩ : Slc) (xs.map encS) s.len = some (s', h') ∧ AccV 1 encS1 9 base h' s' xs ∧ Chg (· = b0) h15 h' ∧ (∀ a, s'.a = some a → h15.next ≤ a.block ∨ a.block = b0) ∧ Gx.rdS 1 s h15 = some (xs.map encS) := by
 have hn : s.len = xs.length := (A.row encS1_len).len
 obtain ⟨s', h', a, A', c, d⟩ := (empty0 (w := 1) (enc := encS1) (e := 9) (h := h15) hb hl).app encS1_len encS1_one xs (bytes := 16) (by decide) (by simp; omega) (by omega)
 rw [flatS] at a
 rw [List.nil_append] at A'
 refine ⟨s', h', by rw [hn]; exact a, A', c.wk fun y _ ⟨a, ha, q⟩ => by cases ha; exact q, fun a ha => (d a ha).imp id fun z => by cases z; rfl, ?_⟩
 rw [← flatS]; exact A.rdS encS1_len
theorem LGive_spec {k : Nat} (D : CallF) {h : AHeap} {kb : Nat} {l : Slc} {ac : Nat} {z : Rz} (L : LR h kb l ac z) {c : Int} {d : ByteArray} {sl : Slc} {names : List ByteArray} (R : Row encS h sl names) (hs : ∀ a, sl.a = some a → a.block ≠ kb) (h1 : ac ≤ 100000) (h2 : z.n ≤ 100000) (h3 : z.ids.length + names.length ≤ 1099511627776) (h4 : z.texts.length ≤ 100000) :
  Gx.Wp (ref08_List_Give k D (some ⟨kb, 0, none⟩) (c, d, sl) h) fun w => Chg (· = kb) h w.2 ∧ LR w.2 kb l (ac + 1) (z.add (c, d, names)) := by
 obtain ⟨s, t, hb, As, At⟩ := L.blk
 have lt := L.lt
 simp only [ref08_List_Give]
 obtain ⟨H1, e1⟩ : ∃ H1, H1 = h.new (.cells [.int .i64 c, .string d, .slice sl.a sl.len sl.cap] 29 true 0) := ⟨_, rfl⟩
 rw [← e1]
 have k1 : Keeps h H1 := e1 ▸ Keeps.new h _
 have n1 : H1.next = h.next + 1 := by rw [e1]; rfl
 have g1 : H1.get h.next = some (.cells [.int .i64 c, .string d, .slice sl.a sl.len sl.cap] 29 true 0) := by rw [e1]; simp
 have hb1 := (k1.oth _ lt fun f => f).trans hb
 refine Gx.Wp.bnd rfl (Gx.Wp.bnd (sldI_at hb1 rfl) (Gx.Wp.bnd rfl ?_))
 rw [Gx.w1 (by omega)]
 refine Gx.Wp.bnd (st1_sb hb1 (by show 0 + 1 < 9; omega) rfl) ?_
 have tail : ∀ (H : AHeap) (cd : Int) (nn : Nat), Chg (· = kb) h H → H.get h.next = some (.cells [.int .i64 c, .string d, .slice sl.a sl.len sl.cap] 29 true 0) → H.get kb = some (.cells [.slice l.a l.len l.cap, .int .i64 ((ac + 1 : Nat) : Int), .int .i64 cd, .string ⟨#[]⟩, .int .i64 nn, .slice s.a s.len s.cap, .slice t.a t.len t.cap, .slice none 0 0, .slice none 0 0] 62 true 0) → h.next < H.next → (z.add (c, d, names)).code = cd → (z.add (c, d, names)).n = nn →
   Gx.Wp (
   let h14 := AHeap.resv H 2
   let h15 := AHeap.set h14 (H.next + 0) (.cells [] 9 true 0)
   (some (⟨kb, 0, none⟩ : Addr)).bind fun p16 =>
   (ldL (⟨p16.block, p16.off + 2 + 4, none⟩ : Addr) h15).bind fun x17 =>
   guardP (SameW [h14] (fun H19 => (ldL (⟨p16.block, p16.off + 2 + 4, none⟩ : Addr) H19).bind fun y18 => some (.slice y18.a y18.len y18.cap)) (.slice x17.a x17.len x17.cap)) (
   (Gx.rdS 1 x17 h15).bind fun n21 =>
   (appendA 1 16 9 h15 (⟨(some ⟨(H.next + 0), 0, some 0⟩), 0, 0⟩ : Slc) n21 x17.len).bind fun r20 =>
   (some (⟨h.next, 0, none⟩ : Addr)).bind fun p22 =>
   (Gx.ldS (⟨p22.block, p22.off + 1, none⟩ : Addr) r20.2).bind fun x23 =>
   guardP (SameW [h15, h14] (fun H25 => (Gx.ldS (⟨p22.block, p22.off + 1, none⟩ : Addr) H25).bind fun y24 => some (.string y24)) (.string x23)) (
   let h26 := AHeap.set r20.2 (H.next + 1) (.cells [.string x23] 9 true 0)
   (Gx.rdS 1 (⟨(some ⟨(H.next + 1), 0, some 0⟩), 1, 1⟩ : Slc) h26).bind fun n28 =>
   (appendA 1 16 9 h26 r20.1 n28 1).bind fun r27 =>
   (some (⟨kb, 0, none⟩ : Addr)).bind fun p29 =>
   (Gx.st1 (⟨p29.block, p29.off + 2 + 4, none⟩ : Addr) (.slice r27.1.a r27.1.len r27.1.cap) r27.2).bind fun h30 =>
   let h31 := AHeap.new h30 (.cells [] 9 true 0)
   (some (⟨kb, 0, none⟩ : Addr)).bind fun p32 =>
   (ldL (⟨p32.block, p32.off + 2 + 3, none⟩ : Addr) h31).bind fun x33 =>
   guardP (SameW [h30] (fun H35 => (ldL (⟨p32.block, p32.off + 2 + 3, none⟩ : Addr) H35).bind fun y34 => some (.slice y34.a y34.len y34.cap)) (.slice x33.a x33.len x33.cap)) (
   (Gx.rdS 1 x33 h31).bind fun n37 =>
   (appendA 1 16 9 h31 (⟨(some ⟨h30.next, 0, some 0⟩), 0, 0⟩ : Slc) n37 x33.len).bind fun r36 =>
   (some (⟨h.next, 0, none⟩ : Addr)).bind fun p38 =>
   (ldL (⟨p38.block, p38.off + 2, none⟩ : Addr) r36.2).bind fun x39 =>
   guardP (SameW [h31, h30] (fun H41 => (ldL (⟨p38.block, p38.off + 2, none⟩ : Addr) H41).bind fun y40 => some (.slice y40.a y40.len y40.cap)) (.slice x39.a x39.len x39.cap)) (
   (Gx.rdS 1 x39 r36.2).bind fun n43 =>
   (appendA 1 16 9 r36.2 r36.1 n43 x39.len).bind fun r42 =>
   (some (⟨kb, 0, none⟩ : Addr)).bind fun p44 =>
   (Gx.st1 (⟨p44.block, p44.off + 2 + 3, none⟩ : Addr) (.slice r42.1.a r42.1.len r42.1.cap) r42.2).bind fun h45 =>
   some ((), h45)))))) fun w => Chg (· = kb) h w.2 ∧ LR w.2 kb l (ac + 1) (z.add (c, d, names)) := by
  intro H cd nn cH gH hbH nH ec en
  have hne : h.next ≠ kb := by omega
  obtain ⟨H14, e14⟩ : ∃ H14, H14 = AHeap.resv H 2 := ⟨_, rfl⟩
  obtain ⟨H15, e15⟩ : ∃ H15, H15 = AHeap.set H14 (H.next + 0) (.cells [] 9 true 0) := ⟨_, rfl⟩
  dsimp only
  rw [← e14, ← e15]
  have k14 : Keeps H H14 := e14 ▸ ⟨by show H.next ≤ H.next + 2; omega, fun x hx _ => rfl⟩
  have n14 : H14.next = H.next + 2 := by rw [e14]; rfl
  have k15 : Keeps H H15 := Chg.beh (T := (· = H.next + 0)) k14 (e15 ▸ Chg.set (.inr rfl)) fun y hy q => by omega
  have n15 : H15.next = H.next + 2 := by rw [e15]; exact n14
  have b14 := (k14.oth _ (by omega) fun f => f).trans hbH
  have b15 := (k15.oth _ (by omega) fun f => f).trans hbH
  have x14 := (k14.oth _ (by omega) fun f => f).trans gH
  have x15 := (k15.oth _ (by omega) fun f => f).trans gH
  have AsH := As.chg cH fun a ha q => by have := (As.lt a ha).2; omega
  have AtH := At.chg cH fun a ha q => by have := (At.lt a ha).2; omega
  refine Gx.Wp.bnd rfl (Gx.Wp.bnd (sldL_at b15 rfl) (Gx.Wp.gp (ssw1 (bnd (sldL_at b14 rfl) rfl)) ?_))
  obtain ⟨s20, h20, a20, A20, c20, d20, rd20⟩ := copy_app (b0 := H.next + 0) (s := ⟨t.a, t.len, t.cap⟩) (AtH.keeps k15) (by omega) (by omega) (by omega)
  refine Gx.Wp.bnd rd20 (Gx.Wp.bnd a20 ?_)
  have n20 := c20.nx
  have x20 := (c20.oth _ (by omega) (by omega)).trans x15
  refine Gx.Wp.bnd rfl (Gx.Wp.bnd (ldS_at x20 rfl) (Gx.Wp.gp (ssw2 (bnd (ldS_at x15 rfl) rfl) (bnd (ldS_at x14 rfl) rfl)) ?_))
  obtain ⟨H26, e26⟩ : ∃ H26, H26 = AHeap.set h20 (H.next + 1) (.cells [.string d] 9 true 0) := ⟨_, rfl⟩
  rw [← e26]
  have c26 : Chg (· = H.next + 1) h20 H26 := e26 ▸ Chg.set (.inr rfl)
  have n26 : H26.next = h20.next := by rw [e26]; rfl
  have rd26 : Gx.rdS 1 (⟨(some ⟨(H.next + 1), 0, some 0⟩), 1, 1⟩ : Slc) H26 = some [encS d] := by
   have : H26.get (H.next + 1) = some (.cells [encS d] 9 true 0) := by rw [e26]; simp; rfl
   exact rdL_all this
  refine Gx.Wp.bnd rd26 ?_
  have A26 := A20.chg c26 fun a ha q => by rcases d20 a ha with w | w <;> omega
  obtain ⟨s27, h27, a27, A27, c27, d27⟩ := A26.app encS1_len encS1_one [d] (bytes := 16) (by decide) (by simp; omega) (by omega)
  have e27 : appendA 1 16 9 H26 s20 [encS d] 1 = some (s27, h27) := a27
  refine Gx.Wp.bnd e27 (Gx.Wp.bnd rfl ?_)
  have n27 := c27.nx
  have of27 : ∀ y, ofS s20 y → H15.next ≤ y ∨ y = H.next := fun y ⟨a, ha, q⟩ => by rcases d20 a ha with w | w <;> omega
  have kB : Keeps H h27 := Chg.beh (Chg.beh (Chg.beh k15 c20 fun y hy q => by omega) c26 fun y hy q => by omega) c27 fun y hy q => by have := of27 y q; omega
  have b27 := (kB.oth _ (by omega) fun f => f).trans hbH
  refine Gx.Wp.bnd (st1_sb b27 (by show 0 + 2 + 4 < 9; omega) rfl) ?_
  obtain ⟨H30, e30⟩ : ∃ H30, H30 = h27.set kb (.cells [.slice l.a l.len l.cap, .int .i64 ((ac + 1 : Nat) : Int), .int .i64 cd, .string ⟨#[]⟩, .int .i64 nn, .slice s.a s.len s.cap, .slice s27.a s27.len s27.cap, .slice none 0 0, .slice none 0 0] 62 true 0) := ⟨_, rfl⟩
  have e30' : h27.set kb (.cells ([Value.slice l.a l.len l.cap, .int .i64 ((ac + 1 : Nat) : Int), .int .i64 cd, .string ⟨#[]⟩, .int .i64 nn, .slice s.a s.len s.cap, .slice t.a t.len t.cap, .slice none 0 0, .slice none 0 0].set (0 + 2 + 4) (.slice s27.a s27.len s27.cap)) 62 true 0) = H30 := e30.symm
  dsimp only
  rw [e30']
  have c30 : Chg (· = kb) h27 H30 := e30 ▸ Chg.set (.inr rfl)
  have n30 : H30.next = h27.next := by rw [e30]; rfl
  have b30 : H30.get kb = some (.cells [.slice l.a l.len l.cap, .int .i64 ((ac + 1 : Nat) : Int), .int .i64 cd, .string ⟨#[]⟩, .int .i64 nn, .slice s.a s.len s.cap, .slice s27.a s27.len s27.cap, .slice none 0 0, .slice none 0 0] 62 true 0) := by rw [e30]; simp
  have x30 := (c30.oth _ (by omega) hne).trans ((kB.oth _ (by omega) fun f => f).trans gH)
  obtain ⟨H31, e31⟩ : ∃ H31, H31 = H30.new (.cells [] 9 true 0) := ⟨_, rfl⟩
  rw [← e31]
  have k31 : Keeps H30 H31 := e31 ▸ Keeps.new H30 _
  have n31 : H31.next = H30.next + 1 := by rw [e31]; rfl
  have b31 := (k31.oth _ (by omega) fun f => f).trans b30
  have x31 := (k31.oth _ (by omega) fun f => f).trans x30
  have As31 : AccV 1 encS1 9 (kb + 1) H31 s z.ids := ((AsH.keeps kB).chg c30 fun a ha q => by have := (As.lt a ha).2; omega).keeps k31
  have At31 : AccV 1 encS1 9 (kb + 1) H31 s27 (z.texts ++ [d]) := (A27.chg c30 fun a ha q => by have := (A27.lt a ha).2; omega).keeps k31
  refine Gx.Wp.bnd rfl (Gx.Wp.bnd (sldL_at b31 rfl) (Gx.Wp.gp (ssw1 (bnd (sldL_at b30 rfl) rfl)) ?_))
  obtain ⟨s36, h36, a36, A36, c36, d36, rd36⟩ := copy_app (b0 := H30.next) (s := ⟨s.a, s.len, s.cap⟩) As31 (by omega) (by omega) (by omega)
  refine Gx.Wp.bnd rd36 (Gx.Wp.bnd a36 ?_)
  have n36 := c36.nx
  have x36 := (c36.oth _ (by omega) (by omega)).trans x31
  refine Gx.Wp.bnd rfl (Gx.Wp.bnd (sldL_at x36 rfl) (Gx.Wp.gp (ssw2 (bnd (sldL_at x31 rfl) rfl) (bnd (sldL_at x30 rfl) rfl)) ?_))
  have kC : Chg (· = kb) h h36 := Chg.beh (T := (· = H30.next)) (cH.trans ((Chg.keeps kB).trans (c30.trans (Chg.keeps k31)))) c36 fun y hy q => by omega
  have R36 : Row encS h36 ⟨sl.a, sl.len, sl.cap⟩ names := Row.chg R kC hs
  refine Gx.Wp.bnd R36.rdS ?_
  rw [show (⟨sl.a, sl.len, sl.cap⟩ : Slc).len = names.length from R.1]
  obtain ⟨s42, h42, a42, A42, c42, d42⟩ := A36.app encS1_len encS1_one names (bytes := 16) (by decide) (by omega) (by omega)
  rw [flatS] at a42
  refine Gx.Wp.bnd a42 (Gx.Wp.bnd rfl ?_)
  have of42 : ∀ y, ofS s36 y → H31.next ≤ y ∨ y = H30.next := fun y ⟨a, ha, q⟩ => by rcases d36 a ha with w | w <;> omega
  have b36 := (c36.oth _ (by omega) (by omega)).trans b31
  have b42 := (c42.oth _ (by omega) (fun q => by have := of42 _ q; omega)).trans b36
  have n42 := c42.nx
  refine Gx.Wp.bnd (st1_sb b42 (by show 0 + 2 + 3 < 9; omega) rfl) (Gx.Wp.of ⟨?_, ⟨s42, s27, ?_, ?_, ?_⟩, ?_⟩)
  ·exact (Chg.beh kC c42 fun y hy q => by have := of42 y q; omega).trans (Chg.set (S := (· = kb)) (.inr rfl))
  ·rw [ec, en, sset_get]; rfl
  ·exact A42.chg (S := (· = kb)) (Chg.set (.inr rfl)) fun a ha q => by have := (A42.lt a ha).2; omega
  ·have A1 := At31.chg c36 fun a ha q => by have h1 := (A27.lt a ha).1; omega
   have A2 := A1.chg c42 fun a ha q => by have h1 := (A27.lt a ha).1; have := of42 _ q; omega
   exact A2.chg (S := (· = kb)) (Chg.set (.inr rfl)) fun a ha q => by have := (A2.lt a ha).2; omega
  ·show kb < h42.next; omega
 have hne : h.next ≠ kb := by omega
 obtain ⟨H5, e5⟩ : ∃ H5, H5 = H1.set kb (.cells [.slice l.a l.len l.cap, .int .i64 ((ac + 1 : Nat) : Int), .int .i64 z.code, .string ⟨#[]⟩, .int .i64 z.n, .slice s.a s.len s.cap, .slice t.a t.len t.cap, .slice none 0 0, .slice none 0 0] 62 true 0) := ⟨_, rfl⟩
 have e5' : H1.set kb (.cells ([Value.slice l.a l.len l.cap, .int .i64 ac, .int .i64 z.code, .string ⟨#[]⟩, .int .i64 z.n, .slice s.a s.len s.cap, .slice t.a t.len t.cap, .slice none 0 0, .slice none 0 0].set (0 + 1) (.int .i64 ((ac + 1 : Nat) : Int))) 62 true 0) = H5 := e5.symm
 rw [e5']
 have c5 : Chg (· = kb) h H5 := (Chg.keeps k1).trans (e5 ▸ Chg.set (.inr rfl))
 have b5 : H5.get kb = some (.cells [.slice l.a l.len l.cap, .int .i64 ((ac + 1 : Nat) : Int), .int .i64 z.code, .string ⟨#[]⟩, .int .i64 z.n, .slice s.a s.len s.cap, .slice t.a t.len t.cap, .slice none 0 0, .slice none 0 0] 62 true 0) := by rw [e5]; simp
 have g5 : H5.get h.next = some (.cells [.int .i64 c, .string d, .slice sl.a sl.len sl.cap] 29 true 0) := by rw [e5]; simp only [AHeap.get_set]; rw [if_neg hne]; exact g1
 have n5 : H5.next = h.next + 1 := by rw [e5]; exact n1
 refine Gx.Wp.jn fun j9 h9 => Gx.Wp.bnd (sldI_at g5 rfl) ?_
 by_cases c0 : c = 0
 ·refine Gx.Wp.ifp (by rw [c0]; rfl) (Gx.Wp.bnd rfl (Gx.Wp.bnd (sldI_at b5 rfl) (Gx.Wp.bnd rfl ?_)))
  rw [Gx.w1 (by omega)]
  refine Gx.Wp.bnd (st1_sb b5 (by show 0 + 2 + 2 < 9; omega) rfl) ?_
  subst h9
  refine Gx.Wp.jn fun j13 h13 => Gx.Wp.jn fun j50 h50 => Gx.Wp.bnd rfl ?_
  have g6 : ∀ B, (H5.set kb B).get h.next = some (.cells [.int .i64 c, .string d, .slice sl.a sl.len sl.cap] 29 true 0) := fun B => by simp only [AHeap.get_set]; rw [if_neg hne]; exact g5
  refine Gx.Wp.bnd (sldI_at (g6 _) rfl) (Gx.Wp.ifn (by rw [c0]; decide) ?_)
  subst h50
  refine Gx.Wp.ifn (fun q => by cases q) ?_
  subst h13
  refine tail _ z.code (z.n + 1) (c5.trans (Chg.set (.inr rfl))) (g6 _) (by rw [sset_get]; rfl) (by show h.next < H5.next; omega) ?_ ?_
  ·simp only [Rz.add]; rw [if_pos c0]
  ·simp only [Rz.add]; rw [if_pos c0]
 ·refine Gx.Wp.ifn (by simpa using c0) ?_
  subst h9
  refine Gx.Wp.jn fun j13 h13 => Gx.Wp.jn fun j50 h50 => Gx.Wp.bnd rfl (Gx.Wp.bnd (sldI_at g5 rfl) (Gx.Wp.ifp (by simpa using c0) (Gx.Wp.bnd rfl (Gx.Wp.bnd (sldI_at b5 rfl) ?_))))
  subst h50
  by_cases c1 : z.code = 0
  ·rw [c1]
   refine Gx.Wp.ifp rfl (Gx.Wp.bnd rfl (Gx.Wp.bnd (sldI_at g5 rfl) (Gx.Wp.bnd rfl (Gx.Wp.bnd (st1_sb b5 (by show 0 + 2 + 0 < 9; omega) rfl) ?_))))
   subst h13
   refine tail _ c z.n (c5.trans (Chg.set (.inr rfl))) (by simp only [AHeap.get_set]; rw [if_neg hne]; exact g5) (by rw [sset_get]; rfl) (by show h.next < H5.next; omega) ?_ ?_
   ·simp only [Rz.add]; rw [if_neg c0, if_pos c1]
   ·simp only [Rz.add]; rw [if_neg c0]
  ·refine Gx.Wp.ifn (by simpa using c1) ?_
   subst h13
   refine tail H5 z.code z.n c5 g5 b5 (by omega) ?_ ?_
   ·simp only [Rz.add]; rw [if_neg c0, if_neg c1]
   ·simp only [Rz.add]; rw [if_neg c0]
end Gs
namespace Gs
open Go Gx
theorem small_spec {k : Nat} (D : CallF) {h : AHeap} {sl : Slc} {qs : List Rq} (R : RowW 4 encQ h sl qs) (hk : qs.length < k) (hl : qs.length ≤ 9223372036854775807) : Gx.Wp (law08_small k D sl h) fun v => v.2 = h ∧ (v.1 = true → qs.length ≤ 60) := by
 simp only [law08_small]
 refine Gx.Wp.jn fun j hj => ?_
 unfold law08_small_l0
 obtain ⟨bot, eb⟩ := iterK_of (fun _ _ _ => none) (law08_small_l0b k D j) (show qs.length + 1 ≤ k by omega)
 rw [eb]
 have len := R.len
 have go : ∀ d i : Nat, i + d = qs.length → Gx.Wp (iterK bot (d + 1) (law08_small_l0b k D j) sl (i : Int) h) fun v => v.2 = h ∧ (v.1 = true → qs.length ≤ 60) := by
  intro d
  induction d with
  | zero =>
   intro i hi
   rw [iterK_s]; simp only [law08_small_l0b]
   refine Gx.Wp.ifn (by rw [len]; simp; omega) ?_
   subst hj
   exact Gx.Wp.of ⟨rfl, fun q => by have := of_decide_eq_true q; omega⟩
  | succ d ih =>
   intro i hi
   rw [iterK_s]; simp only [law08_small_l0b]
   refine Gx.Wp.ifp (by rw [len]; simp; omega) (Gx.Wp.jn fun j12 h12 => ?_)
   obtain ⟨x, hx⟩ := isome (l := qs) (i := i) (by omega)
   obtain ⟨q, q1, _, _, q3⟩ := R.ld encQ_len (by decide) hx
   have both : ∀ b : Bool, Gx.Wp (j12 sl (i : Int) b h) fun v => v.2 = h ∧ (v.1 = true → qs.length ≤ 60) := fun b => by
    subst h12
    cases b with
    | true => exact Gx.Wp.ifp rfl (Gx.Wp.of ⟨rfl, fun q => by cases q⟩)
    | false =>
     refine Gx.Wp.ifn (fun q => by cases q) ?_
     rw [Gx.w1 (by omega)]
     exact ih (i + 1) (by omega)
   refine Gx.Wp.bnd q1 (Gx.Wp.bnd (q3 3 x.2.2.2 rfl) ?_)
   by_cases c : ((x.2.2.2.size : Int) > 1000)
   ·exact Gx.Wp.ifp (by simpa using c) (Gx.Wp.bnd q1 (Gx.Wp.bnd (q3 3 x.2.2.2 rfl) (both _)))
   ·exact Gx.Wp.ifn (by simpa using c) (both false)
 exact go qs.length 0 (by omega)
end Gs
namespace Gs
open Go Gx
abbrev Tb := Nat × RSt
def encT1 (s : Tb) : Value := ptr s.1
structure RtB (m : Nat) (r : RSt) : Prop where
 l : r.L.length ≤ m
 c : r.many ≤ m
 f : r.fails ≤ 1048576
def ansR (ss : List Tb) (r : Rq) : List Tb × Ry :=
 if r.1 < 0 then (ss, (1, nob, [])) else match ss[r.1.toNat]? with
  | none => (ss, (1, nob, []))
  | some s => (ss.set r.1.toNat (s.1, (s.2.doS r.2.1 r.2.2.1 r.2.2.2).1), ((s.2.doS r.2.1 r.2.2.1 r.2.2.2).2.1, (s.2.doS r.2.1 r.2.2.1 r.2.2.2).2.2.1, (s.2.doS r.2.1 r.2.2.1 r.2.2.2).2.2.2))
structure Bth (ss : List Sb) (ts : List Tb) : Prop where
 len : ss.length = ts.length
 rel : ∀ (i : Nat) s t, ss[i]? = some s → ts[i]? = some t → Rel s.2.2 t.2
theorem Bth.ans {ss : List Sb} {ts : List Tb} (B : Bth ss ts) (r : Rq) : Bth (ansS ss r).1 (ansR ts r).1 ∧ (ansS ss r).2 = (ansR ts r).2 := by
 unfold ansS ansR
 by_cases c : r.1 < 0
 ·rw [if_pos c, if_pos c]; exact ⟨B, rfl⟩
 ·rw [if_neg c, if_neg c]
  cases hs : ss[r.1.toNat]? with
  | none =>
   have : ts[r.1.toNat]? = none := by
    rw [List.getElem?_eq_none_iff] at hs ⊢
    rw [← B.len]; exact hs
   rw [this]; exact ⟨B, rfl⟩
  | some s =>
   have hlt : r.1.toNat < ts.length := by rw [← B.len]; exact (List.getElem?_eq_some_iff.1 hs).1
   obtain ⟨t, ht⟩ := isome hlt
   rw [ht]
   have D := (B.rel _ s t hs ht).do r.2.1 r.2.2.1 r.2.2.2
   refine ⟨⟨by simp [B.len], fun i s' t' hi hj => ?_⟩, by simp only [D.2]⟩
   have hlt1 := (List.getElem?_eq_some_iff.1 hs).1
   by_cases ci : i = r.1.toNat
   ·subst ci
    rw [List.getElem?_set] at hi hj
    simp [hlt] at hj
    simp [hlt1] at hi
    subst hi hj
    exact D.1
   ·rw [List.getElem?_set_ne (fun z => ci z.symm)] at hi hj
    exact B.rel i s' t' hi hj
theorem RR.apartE {S : Nat → Prop} {h h' : AHeap} {tb : Nat} {r : RSt} (R : RR h tb r) (c : Chg S h h') (hS : ∀ y, S y → y ≠ tb ∧ ∃ c e rw fz, h.get y = some (.cells c e rw fz) ∧ e ≠ 124) : RR h' tb r := by
 obtain ⟨e, l, hb, A⟩ := R.blk
 refine ⟨⟨e, l, (c.oth _ R.lt fun q => (hS _ q).1 rfl).trans hb, A.st.imp id ?_, fun a ha => ⟨Nat.lt_of_lt_of_le (A.lt a ha).1 c.nx, (A.lt a ha).2⟩⟩, Nat.lt_of_lt_of_le R.lt c.nx⟩
 rintro ⟨b, h1, h2, h3⟩
 refine ⟨b, h1, (c.oth b (A.lt ⟨b, 0, some (2 + 1)⟩ (by rw [h1])).1 fun q => ?_).trans h2, h3⟩
 obtain ⟨_, c', e', rw', fz', g, ne⟩ := hS b q
 exact blk_ne g h2 ne rfl
end Gs
namespace Gs
open Go Gx
theorem Two.keeps {h h' : AHeap} {sb rb tb i : Nat} {p : PS} {r : RSt} (T : Two h sb rb tb i p r) (k : Keeps h h') : Two h' sb rb tb i p r := ⟨T.s.keeps k, T.t.keeps k, T.r, T.l, T.c, T.f, T.q, T.lt⟩
theorem Two.both {h h1 h2 : AHeap} {sb rb tb i : Nat} {p p' : PS} {r r' : RSt} (T : Two h sb rb tb i p r) (c1 : Chg (SB sb rb) h h1) (s1 : SR h1 sb rb p') (c2 : Chg (· = tb) h1 h2) (t2 : RR h2 tb r') (R : Rel p' r') (l : p'.es.length ≤ i + 1) (c : p'.calls ≤ i + 1) (f : p'.fails ≤ 1048576) (q : p'.quota ≤ 1073741824) :
  Chg (SBT sb rb tb) h h2 ∧ Two h2 sb rb tb (i + 1) p' r' := by
 have lt := T.lt
 refine ⟨(c1.wk fun y _ z => by rcases z with z | z; exact .inl z; exact .inr (.inl z)).trans (c2.wk fun y _ z => .inr (.inr z)), s1.chg c2 (by omega) (by omega), t2, R, l, c, f, q, lt⟩
theorem RR.sb {h h1 : AHeap} {sb rb tb : Nat} {r : RSt} (t : RR h tb r) (lt : sb < tb ∧ rb < tb) (c : Chg (SB sb rb) h h1) : RR h1 tb r := t.chg c fun y hy z => by rcases z with z | z <;> omega
end Gs
namespace Gs
open Go Gx
def rs0 (q : Nat) : RSt := ⟨q, 0, 0, false, []⟩
theorem rNew_spec {k : Nat} (D : CallF) {h : AHeap} {q : Nat} (hq : q ≤ 1073741824) : ∃ h', ref07_New k D (q : Int) h = some ((some ⟨h.next, 0, none⟩, 0), h') ∧ Keeps h h' ∧ RR h' h.next (rs0 q) := by
 refine ⟨h.new (.cells [.int .i64 (q : Int), .int .i64 0, .int .i64 0, .bool false, .slice none 0 0] 48 true 0), ?_, Keeps.new h _, ⟨(), ⟨none, 0, 0⟩, ?_, AccV.nil _ _ _ _ _⟩, ?_⟩
 ·simp only [ref07_New]
  refine jn ?_
  refine ifn (by simp) ?_
  rw [decide_eq_false (by omega)]
  exact ifn (by decide) rfl
 ·rw [AHeap.get_new, if_pos rfl]; rfl
 ·simp only [AHeap.next_new]; omega
end Gs
namespace Gs
open Go Gx
structure Mk (base q : Nat) (h : AHeap) (s r : Slc) (ss : List Sb) (ts : List Tb) : Prop where
 As : Acc encB 23 base h s ss
 At : Acc encT1 39 base h r ts
 sr : ∀ t ∈ ss, SR h t.1 t.2.1 (ps0 q) ∧ t.2.2 = ps0 q ∧ base ≤ t.1 ∧ base ≤ t.2.1
 tr : ∀ t ∈ ts, h.get t.1 = some (.cells [.int .i64 (q : Int), .int .i64 0, .int .i64 0, .bool false, .slice none 0 0] 48 true 0) ∧ t.2 = rs0 q ∧ base ≤ t.1 ∧ t.1 < h.next
 aps : ss.Pairwise fun s t => ¬ SB s.1 s.2.1 t.1 ∧ ¬ SB s.1 s.2.1 t.2.1
 apt : ts.Pairwise fun s t => s.1 ≠ t.1
 len : ss.length = ts.length
theorem Mk.nil (base q : Nat) (h : AHeap) : Mk base q h nils nils [] [] := ⟨Acc.nil _ _ _ _, Acc.nil _ _ _ _, fun t ht => by simp at ht, fun t ht => by simp at ht, .nil, .nil, rfl⟩
theorem SR.notP {h : AHeap} {sb rb : Nat} {p : PS} (s : SR h sb rb p) {y : Nat} {m : Option Addr} {c : List Value} {e : TypeId} {r : Bool} {fz : Nat} (hy : h.get y = some (.cells (.pointer m :: c) e r fz)) : ¬ SB sb rb y := by
 rintro (rfl | rfl)
 ·obtain ⟨i, hb⟩ := s.blk
  rw [hy] at hb
  simp at hb
 ·have := s.mp
  rw [hy] at this
  cases this
theorem SR.not6 {h : AHeap} {sb rb : Nat} {p : PS} (s : SR h sb rb p) {y : Nat} {c : List Value} {e : TypeId} {r : Bool} {fz : Nat} (hy : h.get y = some (.cells c e r fz)) (hl : c.length ≠ 6) : ¬ SB sb rb y := by
 rintro (rfl | rfl)
 ·obtain ⟨i, hb⟩ := s.blk
  rw [hy] at hb
  simp at hb
  rw [hb.1] at hl
  exact hl rfl
 ·have := s.mp
  rw [hy] at this
  cases this
theorem accP_blk {α : Type} {enc : α → Value} (hp : ∀ x, ∃ m, enc x = .pointer m) {e : TypeId} {base : Nat} {h : AHeap} {s : Slc} {xs : List α} (A : Acc enc e base h s xs) {a : Addr} (ha : s.a = some a) : ∃ m c, h.get a.block = some (.cells (.pointer m :: c) e true 0) := by
 rcases A.st with ⟨rfl, _⟩ | ⟨b, g⟩
 ·cases ha
 ·rw [g.s] at ha
  cases ha
  cases xs with
  | nil => exact absurd rfl g.ne
  | cons x xs =>
   obtain ⟨m, hm⟩ := hp x
   have := g.blk
   simp only [outB, List.map_cons, hm] at this
   exact ⟨_, _, this⟩
theorem encB_one (s : Sb) : one (encB s) = true := rfl
theorem encT1_one (s : Tb) : one (encT1 s) = true := rfl
theorem encB_ptr (s : Sb) : ∃ m, encB s = .pointer m := ⟨_, rfl⟩
theorem encT1_ptr (s : Tb) : ∃ m, encT1 s = .pointer m := ⟨_, rfl⟩
theorem Mk.more {k : Nat} {D : CallF} {base q : Nat} {h : AHeap} {s r : Slc} {ss : List Sb} {ts : List Tb} (M : Mk base q h s r ss ts) (hq : q ≤ 1073741824) (hl : ss.length ≤ 1000) (hb : base ≤ h.next) {R : Type} {Q : R → Prop} {f : Slc → Slc → AHeap → Option R}
  (hf : ∀ (s' r' : Slc) (h' : AHeap) (x : Sb) (y : Tb), Mk base q h' s' r' (ss ++ [x]) (ts ++ [y]) → Chg (fun y => base ≤ y) h h' → Gx.Wp (f s' r' h') Q) :
  Gx.Wp ((store_New k D (q : Int) h).bind fun r10 => (ref07_New k D (q : Int) r10.2).bind fun r11 => newK r11.2 (.cells [.pointer r10.1.1] 23 true 0) fun h12 => (rdS 1 (⟨some ⟨r11.2.next, 0, some 0⟩, 1, 1⟩ : Slc) h12).bind fun n14 => (appendA 1 8 23 h12 s n14 1).bind fun r13 =>
   newK r13.2 (.cells [.pointer r11.1.1] 39 true 0) fun h15 => (rdS 1 (⟨some ⟨r13.2.next, 0, some 0⟩, 1, 1⟩ : Slc) h15).bind fun n17 => (appendA 1 8 39 h15 r n17 1).bind fun r16 => f r13.1 r16.1 r16.2) Q := by
 obtain ⟨h1, e1, k1, s1⟩ := New_spec (k := k) D (h := h) hq
 refine Gx.Wp.bnd e1 ?_
 obtain ⟨h2, e2, k2, t2⟩ := rNew_spec (k := k) D (h := h1) hq
 refine Gx.Wp.bnd e2 ?_
 have n1 := k1.nx
 have n2 := k2.nx
 have lt1 := s1.lt
 have tlt := t2.lt
 obtain ⟨x, ex⟩ : ∃ x : Sb, x = (h.next + 1, h.next, ps0 q) := ⟨_, rfl⟩
 obtain ⟨y, ey⟩ : ∃ y : Tb, y = (h1.next, rs0 q) := ⟨_, rfl⟩
 have c2 : h2.get h1.next = some (.cells [.int .i64 (q : Int), .int .i64 0, .int .i64 0, .bool false, .slice none 0 0] 48 true 0) := by
  have e := e2
  simp only [ref07_New, joinK] at e
  rw [if_neg (by simp), decide_eq_false (by omega), if_neg (by decide)] at e
  simp only [Option.some.injEq, Prod.mk.injEq] at e
  rw [← e.2]; simp
 have As := (M.As.keeps k1).keeps k2
 have At := (M.At.keeps k1).keeps k2
 obtain ⟨s', h3, a3, As', c3, d3⟩ := As.push encB_one x (bytes := 8) (by omega) (by decide) (by omega)
 have S2 : ∀ t ∈ ss ++ [x], SR h2 t.1 t.2.1 (ps0 q) ∧ t.2.2 = ps0 q ∧ base ≤ t.1 ∧ base ≤ t.2.1 := by
  intro t ht
  rcases List.mem_append.1 ht with ht | ht
  ·obtain ⟨b1, b2, b3⟩ := M.sr t ht
   exact ⟨(b1.keeps k1).keeps k2, b2, b3⟩
  ·simp at ht; subst ht ex
   exact ⟨s1.keeps k2, rfl, by dsimp only; omega, hb⟩
 have T2 : ∀ t ∈ ts ++ [y], h2.get t.1 = some (.cells [.int .i64 (q : Int), .int .i64 0, .int .i64 0, .bool false, .slice none 0 0] 48 true 0) ∧ t.2 = rs0 q ∧ base ≤ t.1 ∧ t.1 < h2.next := by
  intro t ht
  rcases List.mem_append.1 ht with ht | ht
  ·obtain ⟨b1, b2, b3, b4⟩ := M.tr t ht
   exact ⟨k2.got (by omega) (k1.got (by omega) b1), b2, b3, by omega⟩
  ·simp at ht; subst ht ey
   exact ⟨c2, rfl, by dsimp only; omega, by dsimp only; omega⟩
 refine (show newK h2 (.cells [encB x] 23 true 0) (fun h12 => (rdS 1 (⟨some ⟨h2.next, 0, some 0⟩, 1, 1⟩ : Slc) h12).bind fun n14 => (appendA 1 8 23 h12 s n14 1).bind fun r13 =>
   newK r13.2 (.cells [.pointer (some ⟨h1.next, 0, none⟩)] 39 true 0) fun h15 => (rdS 1 (⟨some ⟨r13.2.next, 0, some 0⟩, 1, 1⟩ : Slc) h15).bind fun n17 => (appendA 1 8 39 h15 r n17 1).bind fun r16 => f r13.1 r16.1 r16.2) = _ by rw [ex]) ▸ ?_
 refine Gx.Wp.bnd rdS_one (Gx.Wp.bnd a3 ?_)
 have n3 := c3.nx
 have sk : ∀ y, ofS s y → ∃ m c, h2.get y = some (.cells (.pointer m :: c) 23 true 0) := fun y ⟨a, ha, q⟩ => q ▸ accP_blk encB_ptr As ha
 have At3 := At.chg c3 fun a ha z => by
  obtain ⟨m, c, g⟩ := sk _ z
  obtain ⟨m', c', g'⟩ := accP_blk encT1_ptr At ha
  exact blk_ne g g' (by decide) rfl
 obtain ⟨r', h4, a4, At', c4, d4⟩ := At3.push encT1_one y (bytes := 8) (by rw [← M.len]; omega) (by decide) (by omega)
 refine (show newK h3 (.cells [encT1 y] 39 true 0) (fun h15 => (rdS 1 (⟨some ⟨h3.next, 0, some 0⟩, 1, 1⟩ : Slc) h15).bind fun n17 => (appendA 1 8 39 h15 r n17 1).bind fun r16 => f s' r16.1 r16.2) = _ by rw [ey]) ▸ ?_
 refine Gx.Wp.bnd rdS_one (Gx.Wp.bnd a4 ?_)
 have rk : ∀ y, ofS r y → ∃ m c, h3.get y = some (.cells (.pointer m :: c) 39 true 0) := fun y ⟨a, ha, q⟩ => q ▸ accP_blk encT1_ptr At3 ha
 have n4 := c4.nx
 refine hf s' r' h4 x y ⟨As'.chg c4 fun a ha z => ?_, At', fun t ht => ?_, fun t ht => ?_, ?_, ?_, by simp [M.len]⟩ (Chg.beh (T := fun y => base ≤ y) (Chg.keeps (k1.trans k2)) ((c3.wk fun y _ ⟨a, ha, q⟩ => by have := (As.lt a ha).2; omega).trans (c4.wk fun y _ ⟨a, ha, q⟩ => by have := (At3.lt a ha).2; omega)) fun y hy z => z)
 ·obtain ⟨m, c, g⟩ := rk _ z
  obtain ⟨m', c', g'⟩ := accP_blk encB_ptr As' ha
  exact blk_ne g g' (by decide) rfl
 ·obtain ⟨b1, b2, b3⟩ := S2 t ht
  have q3 := b1.chg c3 (fun z => by obtain ⟨m, c, g⟩ := sk _ z; exact b1.notP g (.inl rfl)) fun z => by obtain ⟨m, c, g⟩ := sk _ z; exact b1.notP g (.inr rfl)
  exact ⟨q3.chg c4 (fun z => by obtain ⟨m, c, g⟩ := rk _ z; exact q3.notP g (.inl rfl)) fun z => by obtain ⟨m, c, g⟩ := rk _ z; exact q3.notP g (.inr rfl), b2, b3⟩
 ·obtain ⟨b1, b2, b3, b4⟩ := T2 t ht
  have q3 := c3.got b4 (fun z => by obtain ⟨m, c, g⟩ := sk _ z; exact blk_ne g b1 (by decide) rfl) b1
  exact ⟨c4.got (by omega) (fun z => by obtain ⟨m, c, g⟩ := rk _ z; exact blk_ne g q3 (by decide) rfl) q3, b2, b3, by omega⟩
 ·refine List.pairwise_append.2 ⟨M.aps, by simp, fun a ha b hb => ?_⟩
  simp at hb; subst hb ex
  have := (M.sr a ha).1.lt
  exact ⟨fun z => by rcases z with z | z <;> simp only at z <;> omega, fun z => by rcases z with z | z <;> simp only at z <;> omega⟩
 ·refine List.pairwise_append.2 ⟨M.apt, by simp, fun a ha b hb => ?_⟩
  simp at hb; subst hb ey
  have := (M.tr a ha).2.2.2
  dsimp only; omega
end Gs
namespace Gs
open Go Gx
def TSet (ts : List Tb) (y : Nat) : Prop := ∃ t ∈ ts, y = t.1
structure Rts (h : AHeap) (sl : Slc) (m : Nat) (ts : List Tb) : Prop where
 rd : Row encT1 h sl ts
 fr : ∀ a, sl.a = some a → ¬ TSet ts a.block
 st : ∀ (i : Nat) t, ts[i]? = some t → RR h t.1 t.2 ∧ RtB m t.2
 ap : ∀ (i j : Nat) s t, ts[i]? = some s → ts[j]? = some t → i ≠ j → s.1 ≠ t.1
theorem RR.ty {h : AHeap} {tb : Nat} {r : RSt} (R : RR h tb r) : ∃ c, h.get tb = some (.cells c 48 true 0) := by
 obtain ⟨_, l, hb, _⟩ := R.blk
 exact ⟨_, hb⟩
theorem Rts.keeps {h h' : AHeap} {sl : Slc} {m : Nat} {ts : List Tb} (T : Rts h sl m ts) (k : Keeps h h') : Rts h' sl m ts := ⟨Row.keeps T.rd k, T.fr, fun i s hi => ⟨(T.st i s hi).1.keeps k, (T.st i s hi).2⟩, T.ap⟩
theorem rput_len (r : RSt) (n d : ByteArray) : (r.putS n d).1.L.length ≤ r.L.length + 1 ∧ (r.putS n d).1.many = r.many ∧ (r.putS n d).1.fails = r.fails := by
 unfold RSt.putS
 have := ly_len n d r.L
 split
 ·exact ⟨Nat.le_succ _, rfl, rfl⟩
 ·split
  ·exact ⟨Nat.le_succ _, rfl, rfl⟩
  ·exact ⟨this, rfl, rfl⟩
theorem rdo_len (r : RSt) (kind : Int) (n d : ByteArray) : (r.doS kind n d).1.L.length ≤ r.L.length + 1 ∧ (r.doS kind n d).1.many = r.many + 1 ∧ (r.doS kind n d).1.fails ≤ r.fails := by
 have b : r.up.L.length ≤ r.L.length + 1 ∧ r.up.many = r.many + 1 ∧ r.up.fails ≤ r.fails := ⟨Nat.le_succ _, rfl, Nat.le_refl _⟩
 unfold RSt.doS
 split
 ·exact b
 ·split
  ·exact ⟨Nat.le_succ _, rfl, Nat.sub_le _ _⟩
  ·split
   ·obtain ⟨h1, h2, h3⟩ := rput_len r.up n d
    exact ⟨h1, h2, by show (r.up.putS n d).1.fails ≤ _; rw [h3]; exact Nat.le_refl _⟩
   ·split
    ·exact b
    ·split
     ·split <;> exact b
     ·split
      ·split
       ·refine ⟨?_, rfl, Nat.le_refl _⟩
        show (r.L.take (fi n r.L) ++ r.L.drop (fi n r.L + 1)).length ≤ _
        have := fi_le n r.L
        simp; omega
       ·exact b
      ·exact b
end Gs
namespace Gs
open Go Gx
section
variable {base q : Nat} {h : AHeap} {s r : Slc} {ss : List Sb} {ts : List Tb}
theorem pair_of {α : Type} {R : α → α → Prop} {l : List α} (p : l.Pairwise R) (sy : ∀ a b, a ∈ l → b ∈ l → R a b → R b a) {i j : Nat} {a b : α} (hi : l[i]? = some a) (hj : l[j]? = some b) (hij : i ≠ j) : R a b := by
 obtain ⟨li, rfl⟩ := getElem_of hi
 obtain ⟨lj, rfl⟩ := getElem_of hj
 rw [List.pairwise_iff_getElem] at p
 rcases Nat.lt_or_ge i j with c | c
 ·exact p i j li lj c
 ·exact sy _ _ (List.getElem_mem _) (List.getElem_mem _) (p j i lj li (by omega))
theorem Mk.sts (M : Mk base q h s r ss ts) (hq : q ≤ 1073741824) : Sts h s 0 ss := by
 refine ⟨M.As.row, fun a ha z => ?_, fun i t hi => ?_, fun i j a b hi hj hij => ?_⟩
 ·obtain ⟨t, ht, z⟩ := z
  obtain ⟨m, c, g⟩ := accP_blk encB_ptr M.As ha
  exact ((M.sr t ht).1).notP g z
 ·obtain ⟨b1, b2, _⟩ := M.sr t (mem_of hi)
  rw [b2]
  exact ⟨b1, good0, Nat.le_refl _, Nat.le_refl _, Nat.zero_le _, hq⟩
 ·refine pair_of M.aps (fun a b ha hb z => ?_) hi hj hij
  obtain ⟨z1, z2⟩ := z
  refine ⟨fun w => ?_, fun w => ?_⟩
  ·rcases w with w | w
   ·exact z1 (.inl w.symm)
   ·exact z2 (.inl w.symm)
  ·rcases w with w | w
   ·exact z1 (.inr w.symm)
   ·exact z2 (.inr w.symm)
theorem Mk.rr (M : Mk base q h s r ss ts) : ∀ t ∈ ts, RR h t.1 t.2 := fun t ht => by
 obtain ⟨b1, b2, b3, b4⟩ := M.tr t ht
 rw [b2]
 exact ⟨⟨(), ⟨none, 0, 0⟩, b1, AccV.nil _ _ _ _ _⟩, b4⟩
theorem Mk.rts (M : Mk base q h s r ss ts) : Rts h r 0 ts := by
 refine ⟨M.At.row, fun a ha z => ?_, fun i t hi => ?_, fun i j a b hi hj hij => pair_of M.apt (fun a b _ _ z => fun w => z w.symm) hi hj hij⟩
 ·obtain ⟨t, ht, z⟩ := z
  obtain ⟨m, c, g⟩ := accP_blk encT1_ptr M.At ha
  exact blk_ne g (M.tr t ht).1 (by decide) z
 ·obtain ⟨b1, b2, _⟩ := M.tr t (mem_of hi)
  refine ⟨M.rr t (mem_of hi), ?_⟩
  rw [b2]
  exact ⟨Nat.le_refl _, Nat.le_refl _, Nat.zero_le _⟩
theorem rel0 (q : Nat) : Rel (ps0 q) (rs0 q) := ⟨rfl, rfl, rfl, rfl, good0, .nil, fun _ => rfl⟩
theorem Mk.bth (M : Mk base q h s r ss ts) : Bth ss ts := ⟨M.len, fun i s t hi hj => by rw [(M.sr s (mem_of hi)).2.1, (M.tr t (mem_of hj)).2.1]; exact rel0 q⟩
theorem Mk.sset (M : Mk base q h s r ss ts) {y : Nat} (z : SSet ss y) : base ≤ y ∧ y < h.next := by
 obtain ⟨t, ht, z⟩ := z
 obtain ⟨b1, b2, b3, b4⟩ := M.sr t ht
 have := b1.lt
 rcases z with rfl | rfl <;> omega
theorem Mk.tset (M : Mk base q h s r ss ts) {y : Nat} (z : TSet ts y) : base ≤ y ∧ y < h.next := by
 obtain ⟨t, ht, z⟩ := z
 obtain ⟨b1, b2, b3, b4⟩ := M.tr t ht
 omega
theorem Mk.parts (M : Mk base q h s r ss ts) {y : Nat} (z : SSet ss y) : ¬ TSet ts y := by
 obtain ⟨t, ht, z⟩ := z
 rintro ⟨u, hu, rfl⟩
 exact ((M.sr t ht).1).not6 (M.tr u hu).1 (by simp) z
theorem Mk.ls (M : Mk base q h s r ss ts) {a : Addr} (ha : s.a = some a) : base ≤ a.block ∧ a.block < h.next ∧ ¬ SSet ss a.block ∧ ¬ TSet ts a.block := by
 have b := M.As.lt a ha
 obtain ⟨m, c, g⟩ := accP_blk encB_ptr M.As ha
 refine ⟨b.2, b.1, fun ⟨t, ht, z⟩ => ((M.sr t ht).1).notP g z, fun ⟨t, ht, z⟩ => blk_ne g (M.tr t ht).1 (by decide) z⟩
theorem Mk.lr (M : Mk base q h s r ss ts) {a : Addr} (ha : r.a = some a) : base ≤ a.block ∧ a.block < h.next ∧ ¬ SSet ss a.block ∧ ¬ TSet ts a.block := by
 have b := M.At.lt a ha
 obtain ⟨m, c, g⟩ := accP_blk encT1_ptr M.At ha
 refine ⟨b.2, b.1, fun ⟨t, ht, z⟩ => ((M.sr t ht).1).notP g z, fun ⟨t, ht, z⟩ => blk_ne g (M.tr t ht).1 (by decide) z⟩
end
theorem both_spec {k : Nat} (D : CallF) {h : AHeap} (hk : 4 ≤ k) : Gx.Wp (law08_both k D h) fun z => ∃ ss ts, Mk h.next 200 z.2 z.1.1 z.1.2 ss ts ∧ Keeps h z.2 ∧ ss.length = 3 := by
 simp only [law08_both]
 refine Gx.Wp.jn fun j hj => ?_
 unfold law08_both_l0
 obtain ⟨bot, eb⟩ := iterK_of (fun _ _ _ _ => none) (law08_both_l0b k D j) hk
 rw [eb]
 have st : ∀ {f : Slc → Slc → Int → AHeap → Option ((Slc × Slc) × AHeap)} {h' : AHeap} {s r : Slc} {ss : List Sb} {ts : List Tb} {i : Nat} {Q : (Slc × Slc) × AHeap → Prop}, i < 3 → Mk h.next 200 h' s r ss ts → ss.length = i → h.next ≤ h'.next → (∀ (s' r' : Slc) (h2 : AHeap) ss' ts', Mk h.next 200 h2 s' r' ss' ts' → ss'.length = i + 1 → Chg (fun y => h.next ≤ y) h' h2 → Gx.Wp (f s' r' ((i + 1 : Nat) : Int) h2) Q) → Gx.Wp (law08_both_l0b k D j f s r (i : Int) h') Q := by
  intro f h' s r ss ts i Q hi M hl hn hf
  simp only [law08_both_l0b]
  refine Gx.Wp.ifp (by simp; omega) ?_
  rw [Gx.w1 (by omega)]
  exact M.more (q := 200) (by decide) (by omega) hn fun s' r' h2 x y M' c => hf s' r' h2 _ _ M' (by simp [hl]) c
 simp only [iterK_s]
 refine st (i := 0) (by decide) (Mk.nil _ _ _) rfl (Nat.le_refl _) fun s1 r1 h1 ss1 ts1 M1 l1 c1 => ?_
 have n1 := c1.nx
 refine st (i := 1) (by decide) M1 l1 n1 fun s2 r2 h2 ss2 ts2 M2 l2 c2 => ?_
 have n2 := c2.nx
 refine st (i := 2) (by decide) M2 l2 (by omega) fun s3 r3 h3 ss3 ts3 M3 l3 c3 => ?_
 simp only [law08_both_l0b]
 refine Gx.Wp.ifn (by decide) ?_
 subst hj
 refine Gx.Wp.of ⟨ss3, ts3, M3, ((c1.trans c2).trans c3) |> fun c => ⟨c.nx, fun x hx _ => c.oth x hx (by omega)⟩, l3⟩
end Gs
namespace Gs
open Go Gx
theorem TSet_set {ss : List Tb} {i : Nat} {s : Tb} {p : RSt} (hi : ss[i]? = some s) (y : Nat) : TSet (ss.set i (s.1, p)) y ↔ TSet ss y := by
 constructor
 ·rintro ⟨t, ht, q⟩
  rcases List.mem_or_eq_of_mem_set ht with ht | rfl
  ·exact ⟨t, ht, q⟩
  ·exact ⟨s, mem_of hi, q⟩
 ·rintro ⟨t, ht, q⟩
  obtain ⟨j, hj⟩ := List.getElem?_of_mem ht
  by_cases c : j = i
  ·subst c
   rw [hi] at hj; cases hj
   have hlt := (List.getElem?_eq_some_iff.1 hi).1
   exact ⟨(s.1, p), List.mem_of_getElem? (i := j) (by rw [List.getElem?_set]; simp [hlt]), q⟩
  ·exact ⟨t, List.mem_of_getElem? (i := j) (by rw [List.getElem?_set_ne (fun z => c z.symm)]; exact hj), q⟩
theorem RAnswer_spec {k : Nat} (D : CallF) {h : AHeap} {sl : Slc} {m : Nat} {ss : List Tb} (T : Rts h sl m ss) (r : Rq) (hm : m ≤ 100000) (hk : m + 1 < k) (hk2 : 100 < k) (ht : ∀ t ∈ ss, ∀ n d, totR (lyR n d t.2.L) ≤ 1152921504606846976 ∨ fitsC n d ≠ 0) :
  Gx.Wp (ref08_Answer k D sl r h) fun z => Chg (TSet ss) h z.2 ∧ Rts z.2 sl (m + 1) (ansR ss r).1 ∧ z.1.1 = (ansR ss r).2.1 ∧ z.1.2.1 = (ansR ss r).2.2.1 ∧ Acc encS 9 h.next z.2 z.1.2.2 (ansR ss r).2.2.2 := by
 obtain ⟨st, kind, n, d⟩ := r
 simp only [ref08_Answer]
 obtain ⟨H1, e1⟩ : ∃ H1, H1 = h.new (.cells [.int .i64 st, .int .i64 kind, .string n, .string d] 32 true 0) := ⟨_, rfl⟩
 rw [← e1]
 obtain ⟨H2, e2⟩ : ∃ H2, H2 = H1.new (.cells [.int .i64 0, .string ⟨#[]⟩, .slice none 0 0] 29 true 0) := ⟨_, rfl⟩
 rw [← e2]
 have k1 : Keeps h H1 := e1 ▸ Keeps.new h _
 have k2 : Keeps h H2 := k1.trans (e2 ▸ Keeps.new H1 _)
 have n1 : H1.next = h.next + 1 := by rw [e1]; rfl
 have n2 : H2.next = h.next + 2 := by rw [e2]; simp [n1]
 have rq : H2.get h.next = some (.cells [.int .i64 st, .int .i64 kind, .string n, .string d] 32 true 0) := by
  rw [e2]; simp only [AHeap.get_new]; rw [if_neg (by omega), e1]; simp
 have rs : H2.get H1.next = some (.cells [.int .i64 0, .string ⟨#[]⟩, .slice none 0 0] 29 true 0) := by rw [e2]; simp
 have T2 := T.keeps k2
 have len : sl.len = ss.length := T.rd.1
 refine Gx.Wp.jn fun j8 h8 => Gx.Wp.bnd (sldI_at rq rfl) ?_
 have bad : ansR ss (st, kind, n, d) = (ss, (1, nob, [])) → Gx.Wp (j8 sl (some ⟨h.next, 0, none⟩) (some ⟨H1.next, 0, none⟩) true H2) fun z => Chg (TSet ss) h z.2 ∧ Rts z.2 sl (m + 1) (ansR ss (st, kind, n, d)).1 ∧ z.1.1 = (ansR ss (st, kind, n, d)).2.1 ∧ z.1.2.1 = (ansR ss (st, kind, n, d)).2.2.1 ∧ Acc encS 9 h.next z.2 z.1.2.2 (ansR ss (st, kind, n, d)).2.2.2 := by
  intro ea
  subst h8
  refine Gx.Wp.ifp rfl (Gx.Wp.bnd rfl ?_)
  refine fin3 rs rfl 1 ⟨#[]⟩ ⟨none, 0, 0⟩ ?_
  have kf : Keeps h (H2.set H1.next (.cells [.int .i64 1, .string ⟨#[]⟩, .slice none 0 0] 29 true 0)) := Chg.beh (T := (· = H1.next)) k2 (Chg.set (.inr rfl)) fun y hy q => by omega
  rw [ea]
  have Tf := T.keeps kf
  exact ⟨Chg.keeps kf, ⟨Tf.rd, Tf.fr, fun i s hi => ⟨(Tf.st i s hi).1, ⟨Nat.le_succ_of_le (Tf.st i s hi).2.l, Nat.le_succ_of_le (Tf.st i s hi).2.c, (Tf.st i s hi).2.f⟩⟩, Tf.ap⟩, rfl, rfl, Acc.nil _ _ _ _⟩
 by_cases c1 : st < 0
 ·refine Gx.Wp.ifp (by simpa using c1) (bad ?_)
  unfold ansR; rw [if_pos c1]
 refine Gx.Wp.ifn (by simpa using c1) (Gx.Wp.bnd (sldI_at rq rfl) ?_)
 obtain ⟨i, rfl⟩ : ∃ i : Nat, st = (i : Int) := ⟨st.toNat, by omega⟩
 by_cases c2 : ss.length ≤ i
 ·refine Gx.Wp.ifp (by rw [len]; simp; omega) (bad ?_)
  unfold ansR
  rw [if_neg c1]
  show (match ss[((i : Nat) : Int).toNat]? with | none => _ | some s => _) = _
  rw [Int.toNat_natCast, List.getElem?_eq_none c2]
 obtain ⟨s, hsi⟩ := isome (l := ss) (i := i) (by omega)
 refine Gx.Wp.ifn (by rw [len]; simp; omega) (Gx.Wp.bnd (sldI_at rq rfl) ?_)
 obtain ⟨q, q1, q2, _⟩ := T2.rd.rd hsi
 have ldp : Gx.ldP q H2 = some (some ⟨s.1, 0, none⟩) := by simp only [Gx.ldP, q2]; rfl
 refine Gx.Wp.bnd q1 (Gx.Wp.bnd ldp ?_)
 subst h8
 refine Gx.Wp.ifn (fun z => by cases z) (Gx.Wp.bnd rfl (Gx.Wp.bnd (sldI_at rq rfl) (Gx.Wp.bnd q1 (Gx.Wp.bnd ldp (Gx.Wp.bnd rfl (Gx.Wp.bnd (sldA_at rq rfl) (Gx.Wp.bnd rfl ?_)))))))
 obtain ⟨sR, sB⟩ := T2.st i s hsi
 refine Gx.Wp.call (rDo_spec D sR i kind n d (by have := sB.l; omega) (by have := sB.c; omega) sB.f (by have := sB.l; omega) hk2 (fun _ => ht s (mem_of hsi) n d)) fun r21 hq => ?_
 obtain ⟨a1, a2, A, c, s1⟩ := hq
 rw [a1, a2]
 refine Gx.Wp.bnd rfl ?_
 have inS : ∀ y, y = s.1 → TSet ss y := fun y z => ⟨s, mem_of hsi, z⟩
 have lts : ∀ y, TSet ss y → y < h.next := by
  rintro y ⟨t, ht, z⟩
  obtain ⟨j, hj⟩ := List.getElem?_of_mem ht
  have := ((T.st j t hj).1).lt
  omega
 have rs2 : r21.2.get H1.next = some (.cells [.int .i64 0, .string ⟨#[]⟩, .slice none 0 0] 29 true 0) := (c.oth _ (by omega) (fun z => by have := lts _ (inS _ z); omega)).trans rs
 refine fin3 rs2 rfl _ _ _ ?_
 have ea : ansR ss ((i : Int), kind, n, d) = (ss.set i (s.1, (s.2.doS kind n d).1), (((s.2.doS kind n d).2.1 : Int), (s.2.doS kind n d).2.2.1, (s.2.doS kind n d).2.2.2)) := by
  unfold ansR
  rw [if_neg c1]
  show (match ss[((i : Nat) : Int).toNat]? with | none => _ | some s => _) = _
  rw [Int.toNat_natCast, hsi]
 rw [ea]
 have nA := c.nx
 have cS : Chg (TSet ss) h r21.2 := (Chg.keeps k2).trans (c.wk fun y _ z => inS y z)
 have cF : Chg (TSet ss) h (r21.2.set H1.next (.cells [.int .i64 ((s.2.doS kind n d).2.1 : Int), .string (s.2.doS kind n d).2.2.1, .slice r21.1.2.2.a r21.1.2.2.len r21.1.2.2.cap] 29 true 0)) := Chg.beh (T := (· = H1.next)) cS (Chg.set (.inr rfl)) fun y hy z => by omega
 obtain ⟨HF, eF⟩ : ∃ HF, HF = r21.2.set H1.next (.cells [.int .i64 ((s.2.doS kind n d).2.1 : Int), .string (s.2.doS kind n d).2.2.1, .slice r21.1.2.2.a r21.1.2.2.len r21.1.2.2.cap] 29 true 0) := ⟨_, rfl⟩
 rw [← eF] at cF ⊢
 have cl : Chg (· = H1.next) r21.2 HF := eF ▸ Chg.set (.inr rfl)
 have hlt := (List.getElem?_eq_some_iff.1 hsi).1
 refine ⟨cF, ⟨?_, ?_, ?_, ?_⟩, rfl, rfl, ⟨(A.chg cl fun a ha z => by have := (A.lt a ha).2; omega).st, fun a ha => ⟨Nat.lt_of_lt_of_le (A.lt a ha).1 cl.nx, by have := (A.lt a ha).2; omega⟩⟩⟩
 ·-- the list is the same
  have R : Row encT1 HF sl ss := Row.chg T.rd cF T.fr
  refine ⟨by rw [R.1]; simp, fun j t hj => ?_⟩
  by_cases cj : j = i
  ·subst cj
   rw [List.getElem?_set] at hj
   simp [hlt] at hj
   subst hj
   exact R.2 j s hsi
  ·rw [List.getElem?_set_ne (fun z => cj z.symm)] at hj
   exact R.2 j t hj
 ·intro a ha z
  exact T.fr a ha ((TSet_set hsi _).1 z)
 ·intro j t hj
  by_cases cj : j = i
  ·subst cj
   rw [List.getElem?_set] at hj
   simp [hlt] at hj
   subst hj
   obtain ⟨d1, d2, d3⟩ := rdo_len s.2 kind n d
   refine ⟨s1.apartE cl fun y hy => ⟨by have := lts s.1 (inS _ rfl); show y ≠ s.1; omega, by subst hy; exact ⟨_, _, _, _, rs2, by decide⟩⟩, ⟨?_, ?_, ?_⟩⟩
   ·have := sB.l; show (s.2.doS kind n d).1.L.length ≤ _; omega
   ·have := sB.c; show (s.2.doS kind n d).1.many ≤ _; omega
   ·have := sB.f; show (s.2.doS kind n d).1.fails ≤ _; omega
  ·rw [List.getElem?_set_ne (fun z => cj z.symm)] at hj
   obtain ⟨tR, tB⟩ := T2.st j t hj
   have p1 := T.ap i j s t hsi hj (fun z => cj z.symm)
   obtain ⟨c0, g0⟩ := sR.ty
   have q1 := tR.apartE c fun y hy => ⟨by subst hy; exact p1, by subst hy; exact ⟨_, _, _, _, g0, by decide⟩⟩
   exact ⟨q1.apartE cl fun y hy => ⟨by have := lts t.1 ⟨t, mem_of hj, rfl⟩; show y ≠ t.1; omega, by subst hy; exact ⟨_, _, _, _, rs2, by decide⟩⟩, ⟨by have := tB.l; omega, by have := tB.c; omega, tB.f⟩⟩
 ·intro a b s' t' ha hb hab
  have back : ∀ (j : Nat) u, (ss.set i (s.1, (s.2.doS kind n d).1))[j]? = some u → ∃ v, ss[j]? = some v ∧ u.1 = v.1 := by
   intro j u hu
   by_cases cj : j = i
   ·subst cj
    rw [List.getElem?_set] at hu
    simp [hlt] at hu
    subst hu
    exact ⟨s, hsi, rfl⟩
   ·rw [List.getElem?_set_ne (fun z => cj z.symm)] at hu
    exact ⟨u, hu, rfl⟩
  obtain ⟨u, hu, u1⟩ := back a s' ha
  obtain ⟨v, hv, v1⟩ := back b t' hb
  have := T.ap a b u v hu hv hab
  rw [u1, v1]; exact this
end Gs
namespace Gs
open Go Gx
theorem askAll_over {K : List Ry → Prg} : ∀ {qs : List Rq} {acc : List Ry}, qs ≠ [] → (askAll qs acc K).over = false ∧ (askAll qs acc K).res = Rz.zero
 | [], _, h => absurd rfl h
 | _ :: _, _, _ => ⟨rfl, rfl⟩
theorem run_list {k : Nat} (qs : List Rq) (most : Nat) (ss : List Sb) (hn : ∀ q ∈ qs, NameOk k q) : ∃ p', RunR k most (listP qs) ss p' (ansL (qs.take (min most qs.length)) ss).1 (min most qs.length) ∧ p'.over = decide (qs.length ≤ min most qs.length) ∧
  p'.res = if qs.length ≤ min most qs.length then Rz.of (ansL (qs.take (min most qs.length)) ss).2 else Rz.zero := by
 by_cases c : qs.length ≤ most
 ·rw [Nat.min_eq_right c, List.take_length]
  refine ⟨finP (Rz.of (ansL qs ss).2), ?_, ?_, ?_⟩
  ·have := run_all (k := k) (K := fun ys => finP (Rz.of ys)) (most := most - qs.length) (acc := []) (ss := ss) hn RunR.over
   rw [Nat.zero_add, Nat.sub_add_cancel c] at this
   exact this
  ·simp [finP, Prg.over]
  ·rw [if_pos (Nat.le_refl _)]; rfl
 ·rw [Nat.min_eq_left (by omega)]
  have := run_part (k := k) (K := fun ys => finP (Rz.of ys)) (most := most) (acc := []) (ss := ss) hn (by omega)
  have ne : qs.drop most ≠ [] := fun z => by have := congrArg List.length z; simp at this; omega
  refine ⟨_, this, ?_, ?_⟩
  ·rw [(askAll_over ne).1, decide_eq_false (by omega)]
  ·rw [(askAll_over ne).2, if_neg (by omega)]
theorem one_sts {h : AHeap} {b sb rb : Nat} {e : TypeId} {p : PS} {sp : Option Nat} {m : Nat} (hb : h.get b = some (.cells [ptr sb] e true 0)) (hl : b < h.next) (s : SR h sb rb p) (B : StB m p) : Sts h ⟨some ⟨b, 0, sp⟩, 1, 1⟩ m [(sb, rb, p)] := by
 refine ⟨⟨rfl, fun i x hx => ?_⟩, fun a ha q => ?_, fun i t hi => ?_, fun i j x y hi hj hij => ?_⟩
 ·cases i with
  | zero => simp at hx; subst hx; exact ⟨⟨b, 0, sp⟩, _, _, _, _, rfl, hl, hb, rfl⟩
  | succ i => simp at hx
 ·cases ha
  obtain ⟨t, ht, q⟩ := q
  simp at ht; subst ht
  exact s.notP hb q
 ·cases i with
  | zero => simp at hi; subst hi; exact ⟨s, B⟩
  | succ i => simp at hi
 ·have := (List.getElem?_eq_some_iff.1 hi).1
  have := (List.getElem?_eq_some_iff.1 hj).1
  simp at *; omega
theorem answ (sb rb : Nat) : (ansL wq [(sb, rb, ps0 100)]).2 = wy := by kernel_rfl
theorem works8P {k n : Nat} {h : AHeap} (hk : 100 ≤ k) (hn : 4 ≤ n) : Gx.Wp (law08_works k (lvl k n) h) fun z => z.1 = true ∧ Keeps h z.2 := by
 simp only [law08_works]
 obtain ⟨h1, e1, k1, s1⟩ := New_spec (k := k) (lvl k n) (h := h) (q := 100) (by decide)
 refine Gx.Wp.bnd e1 (Gx.Wp.jn fun j5 hj => Gx.Wp.ifn (fun q => by cases q) ?_)
 subst hj
 refine Gx.Wp.ifn (fun q => by cases q) ?_
 have lt1 := s1.lt
 obtain ⟨H6, e6⟩ : ∃ H6, H6 = h1.new (.cells [.int .i64 0, .int .i64 1, .string (⟨#[97]⟩ : ByteArray), .string (⟨#[98]⟩ : ByteArray), .int .i64 0, .int .i64 2, .string (⟨#[97]⟩ : ByteArray), .string (⟨#[]⟩ : ByteArray)] 32 true 0) := ⟨_, rfl⟩
 dsimp only
 rw [← e6]
 have k6 : Keeps h1 H6 := e6 ▸ Keeps.new h1 _
 have n6 : H6.next = h1.next + 1 := by rw [e6]; rfl
 have g6 : H6.get h1.next = some (.cells (wq.flatMap encQ) 32 true 0) := by rw [e6]; simp; rfl
 have R6 : RowW 4 encQ H6 ⟨some ⟨h1.next, 0, some 0⟩, 2, 2⟩ wq := rowW_blk (n := 2) encQ_len g6 (by omega) (by decide)
 refine Gx.Wp.call (List_P hn R6 (by decide) (by show 2 < k; omega)) fun r7 q7 => ?_
 obtain ⟨jb, O, ej, k7, J7, oge, jge⟩ := q7
 rw [ej]
 refine Gx.Wp.ifn (fun q => by cases q) ?_
 obtain ⟨H8, e8⟩ : ∃ H8, H8 = r7.2.new (.cells [ptr (h.next + 1)] 23 true 0) := ⟨_, rfl⟩
 have e8' : r7.2.new (.cells [.pointer (some (⟨h.next + 1, 0, none⟩ : Addr))] 23 true 0) = H8 := e8.symm
 rw [e8']
 have k8 : Keeps r7.2 H8 := e8 ▸ Keeps.new r7.2 _
 have g8 : H8.get r7.2.next = some (.cells [ptr (h.next + 1)] 23 true 0) := by rw [e8]; simp
 have n8 : H8.next = r7.2.next + 1 := by rw [e8]; rfl
 have m7 := k7.nx
 have T8 : Sts H8 ⟨some ⟨r7.2.next, 0, some 0⟩, 1, 1⟩ 0 [(h.next + 1, h.next, ps0 100)] := one_sts g8 (by omega) (((s1.keeps k6).keeps k7).keeps k8) ⟨good0, Nat.le_refl _, Nat.le_refl _, Nat.zero_le _, by show 100 ≤ _; decide⟩
 obtain ⟨p', R, ov, rs⟩ := run_list (k := k) wq 9 [(h.next + 1, h.next, ps0 100)] (fun r hr => by
  simp [wq] at hr
  rcases hr with rfl | rfl <;> exact ⟨by show 1 < k; omega, by decide⟩)
 have jl := J7.lj
 refine Gx.Wp.call (Run_P (L := lvl k) (N := 4) (most := 9) hn R (J7.chg k8 fun _ _ f => f) T8 (fun y hy => ?_) (fun a ha => ?_) (by decide) (by show 0 + 2 < k; omega) (by decide)) fun r9 q9 => ?_
 ·obtain ⟨s, hs, q⟩ := hy
  simp at hs; subst hs
  refine ⟨by rcases q with q | q <;> simp only at q <;> omega, fun z => ?_⟩
  rcases z with z | z
  ·have := oge y z; rcases q with q | q <;> simp only at q <;> omega
  ·rcases q with q | q <;> simp only at q <;> omega
 ·cases ha
  refine ⟨by show r7.2.next < _; omega, fun z => ?_⟩
  rcases z with z | z
  ·have := J7.lt _ z; dsimp only at this; omega
  ·dsimp only at z; omega
 obtain ⟨O', v, J9, _, _, _, T9, c9⟩ := q9
 rw [show min 9 wq.length = wq.length from rfl, List.take_length, answ] at rs
 have rs : p'.res = ⟨0, 2, [], [nob, ⟨#[98]⟩]⟩ := rs.trans (by kernel_rfl)
 have ov : p'.over = true := ov
 refine Gx.Wp.call (Result_P _ J9 (by rw [rs]; decide) (by rw [rs]; decide)) fun r10 q10 => ?_
 obtain ⟨k10, o⟩ := q10
 rw [rs] at o
 obtain ⟨o1, o2, o3, o4, o5, o6, o7⟩ := o
 refine Gx.Wp.stL (c := [.int .i64 0, .string ⟨#[]⟩, .int .i64 0, .slice none 0 0, .slice none 0 0, .slice none 0 0, .slice none 0 0]) (e := 60) (sp := none) (by simp) rfl rfl rfl (by decide) fun H12 c12 n12 g12 => ?_
 rw [v, ov]
 refine Gx.Wp.ifp rfl (Gx.Wp.ifp rfl ?_)
 have k12 : Keeps r10.2 H12 := Chg.beh (T := (· = r10.2.next)) (Keeps.new _ _) c12 fun y hy q => by omega
 refine Gx.Wp.bnd (sldI_at g12 rfl) (Gx.Wp.ifp (by rw [o3]; rfl) (Gx.Wp.bnd (sldL_at g12 rfl) ?_))
 have k15 : Keeps H12 (H12.new (.cells [.string (⟨#[]⟩ : ByteArray), .string (⟨#[98]⟩ : ByteArray)] 9 true 0)) := Keeps.new _ _
 have R15 : Row encS (H12.new (.cells [.string (⟨#[]⟩ : ByteArray), .string (⟨#[98]⟩ : ByteArray)] 9 true 0)) ⟨some ⟨H12.next, 0, some 0⟩, 2, 2⟩ [nob, ⟨#[98]⟩] := row_lit [nob, ⟨#[98]⟩] (e := 9) (r := true) (fz := 0) (by rw [AHeap.get_new, if_pos rfl]; rfl) (by simp)
 refine Gx.Wp.bnd (sameS_spec _ (Row.keeps o5 (k12.trans k15)) R15 (by show 2 < k; omega) (by decide)) (Gx.Wp.of ⟨rfl, ?_⟩)
 have kA : Keeps h H8 := ((k1.trans k6).trans k7).trans k8
 refine (Chg.beh kA c9 fun y hy q => ?_).trans ((k10.trans k12).trans k15)
 rcases q with ⟨s, hs, q⟩ | q
 ·simp at hs; subst hs
  rcases q with q | q <;> simp only at q <;> omega
 ·have := oge y q; omega
def ansRL : List Rq → List Tb → List Tb × List Ry
 | [], ts => (ts, [])
 | q :: qs, ts => ((ansRL qs (ansR ts q).1).1, (ansR ts q).2 :: (ansRL qs (ansR ts q).1).2)
theorem both_all : ∀ {qs : List Rq} {ss : List Sb} {ts : List Tb}, Bth ss ts → (ansL qs ss).2 = (ansRL qs ts).2 ∧ Bth (ansL qs ss).1 (ansRL qs ts).1
 | [], _, _, B => ⟨rfl, B⟩
 | q :: qs, ss, ts, B => by
  obtain ⟨B', e⟩ := B.ans q
  obtain ⟨h1, h2⟩ := both_all (qs := qs) B'
  exact ⟨by simp only [ansL, ansRL, e, h1], h2⟩
theorem ansRL_snoc : ∀ (qs : List Rq) (q : Rq) (ts : List Tb), ansRL (qs ++ [q]) ts = ((ansR (ansRL qs ts).1 q).1, (ansRL qs ts).2 ++ [(ansR (ansRL qs ts).1 q).2])
 | [], q, ts => rfl
 | r :: qs, q, ts => by simp only [List.cons_append, ansRL, ansRL_snoc qs q]
theorem ansRL_len : ∀ (qs : List Rq) (ts : List Tb), (ansRL qs ts).2.length = qs.length
 | [], _ => rfl
 | q :: qs, ts => by simp only [ansRL, List.length_cons, ansRL_len qs]
theorem TSet_ans (ts : List Tb) (r : Rq) (y : Nat) : TSet (ansR ts r).1 y ↔ TSet ts y := by
 unfold ansR
 split
 ·exact Iff.rfl
 ·split
  ·exact Iff.rfl
  ·rename_i s hs; exact TSet_set hs y
theorem tot_rel {p : PS} {r : RSt} (R : Rel p r) (hl : r.L.length ≤ 1048576) (n d : ByteArray) : totR (lyR n d r.L) ≤ 1152921504606846976 ∨ fitsC n d ≠ 0 := by
 by_cases c : fitsC n d = 0
 ·obtain ⟨hn, hd, _⟩ := fits0 c
  have RL := R.lay hn hd
  have t1 : Gs.tot (pt n d p.cl p.es) = totR (lyR n d r.L) := RL.tot
  have t2 := tot_pt (n := n) (d := d) (cl := p.cl) p.es
  have t3 := tot_le R.g
  have := R.len
  exact .inl (by omega)
 ·exact .inr c
theorem Bth.tot {ss : List Sb} {ts : List Tb} {h : AHeap} {sl : Slc} {m : Nat} (B : Bth ss ts) (T : Rts h sl m ts) (hm : m ≤ 100000) : ∀ t ∈ ts, ∀ n d, totR (lyR n d t.2.L) ≤ 1152921504606846976 ∨ fitsC n d ≠ 0 := by
 intro t ht n d
 obtain ⟨i, hi⟩ := List.getElem?_of_mem ht
 obtain ⟨s, hs⟩ := isome (l := ss) (i := i) (by rw [B.len]; exact (List.getElem?_eq_some_iff.1 hi).1)
 exact tot_rel (B.rel i s t hs hi) (by have := (T.st i t hi).2.l; omega) n d
theorem Rts.apartE {S : Nat → Prop} {h h' : AHeap} {sl : Slc} {m : Nat} {ts : List Tb} (T : Rts h sl m ts) (c : Chg S h h') (hS : ∀ y, S y → ¬ TSet ts y ∧ ∃ c e rw fz, h.get y = some (.cells c e rw fz) ∧ e ≠ 124) (ha : ∀ a, sl.a = some a → ¬ S a.block) : Rts h' sl m ts :=
 ⟨Row.chg T.rd c ha, T.fr, fun i t hi => ⟨(T.st i t hi).1.apartE c fun y hy => ⟨fun e => (hS y hy).1 ⟨t, mem_of hi, e⟩, (hS y hy).2⟩, (T.st i t hi).2⟩, T.ap⟩
end Gs
namespace Gs
open Go Gx
theorem rdo_names (r : RSt) (kind : Int) (n d : ByteArray) : (r.doS kind n d).2.2.2.length ≤ r.L.length := by
 have fl := List.length_filter_le (starts n) (r.L.map (·.1))
 rw [List.length_map] at fl
 unfold RSt.doS
 repeat' split
 all_goals first | exact fl | exact Nat.zero_le _
theorem ansR_names {ts : List Tb} {m : Nat} (h : ∀ t ∈ ts, t.2.L.length ≤ m) (q : Rq) : (ansR ts q).2.2.2.length ≤ m := by
 unfold ansR
 split
 ·exact Nat.zero_le _
 ·split
  ·exact Nat.zero_le _
  ·rename_i s hs
   exact Nat.le_trans (rdo_names _ _ _ _) (h s (mem_of hs))
section
variable {k : Nat} {h0 : AHeap} {kb : Nat} {r sl lk : Slc} {qs : List Rq} {ts0 : List Tb} {ss0 : List Sb}
structure Doc (h0 : AHeap) (kb : Nat) (r lk : Slc) (qs : List Rq) (ts0 : List Tb) (i : Nat) (h : AHeap) : Prop where
 t : Rts h r i (ansRL (qs.take i) ts0).1
 l : LR h kb lk i (Rz.of (ansRL (qs.take i) ts0).2)
 b : idsL (ansRL (qs.take i) ts0).2 ≤ i * 100000
 s : ∀ y, TSet (ansRL (qs.take i) ts0).1 y ↔ TSet ts0 y
 c : Chg (fun y => TSet ts0 y ∨ y = kb) h0 h
theorem Doc.step (D : CallF) {i : Nat} {h : AHeap} (S : Doc h0 kb r lk qs ts0 i h) (hr : ∀ a, r.a = some a → a.block ≠ kb) (B : Bth ss0 ts0) (low : ∀ y, TSet ts0 y → y < kb) {q : Rq} (hq : qs[i]? = some q) (hi : i ≤ 100) (hk : 200 < k)
  {R : Type} {Q : R → Prop} {f : AHeap → Option R} (hf : ∀ h', Doc h0 kb r lk qs ts0 (i + 1) h' → Gx.Wp (f h') Q) :
  Gx.Wp ((ref08_Answer k D r (q.1, q.2.1, q.2.2.1, q.2.2.2) h).bind fun r106 => (ref08_List_Give k D (some ⟨kb, 0, none⟩) (r106.1.1, r106.1.2.1, r106.1.2.2) r106.2).bind fun r107 => f r107.2) Q := by
 have Bi := (both_all (qs := qs.take i) B).2
 have e1 : qs.take (i + 1) = qs.take i ++ [q] := by rw [List.take_add_one, hq]; rfl
 have len := ansRL_len (qs.take i) ts0
 have li : (qs.take i).length ≤ i := by simp; omega
 refine Gx.Wp.call (RAnswer_spec D S.t q (by omega) (by omega) (by omega) (Bi.tot S.t (by omega))) fun a ha => ?_
 obtain ⟨ca, Ta, v1, v2, Aa⟩ := ha
 have nm := ansR_names (ts := (ansRL (qs.take i) ts0).1) (m := i) (fun t ht => by
  obtain ⟨j, hj⟩ := List.getElem?_of_mem ht
  exact (S.t.st j t hj).2.l) q
 have La := S.l.below ca fun y hy => low y ((S.s y).1 hy)
 have na := ca.nx
 have lk0 := S.l.lt
 rw [v1, v2]
 refine Gx.Wp.call (LGive_spec D La Aa.row (fun b hb => by have := (Aa.lt b hb).2; omega) (by omega) (by have := zof_n (ansRL (qs.take i) ts0).2; omega) (by rw [zof_ids]; have := S.b; omega) (by rw [zof_texts, List.length_map]; omega)) fun w hw => ?_
 obtain ⟨cw, Lw⟩ := hw
 obtain ⟨s', t', gb, _⟩ := La.blk
 refine hf w.2 ⟨?_, ?_, ?_, fun y => ?_, S.c.trans ((ca.wk fun y _ z => .inl ((S.s y).1 z)).trans (cw.wk fun y _ z => .inr z))⟩
 ·rw [e1, ansRL_snoc]
  exact Ta.apartE cw (fun y hy => ⟨fun z => by have := low y ((S.s y).1 ((TSet_ans _ q y).1 z)); omega, by subst hy; exact ⟨_, _, _, _, gb, by decide⟩⟩) fun a ha => hr a ha
 ·rw [e1, ansRL_snoc, zof_snoc]; exact Lw
 ·rw [e1, ansRL_snoc, idsL_app]
  have := S.b
  simp only [idsL]; omega
 ·rw [e1, ansRL_snoc]; exact (TSet_ans _ q y).trans (S.s y)
end
section
variable {k : Nat} {s r : Slc} {ss : List Sb} {ts : List Tb}
end
end Gs
namespace Gs
open Go Gx
end Gs
namespace Gs
open Go Gx
def reqT : DT := .pair (.int .i64) (.pair (.int .i64) (.pair .str (.pair .str .unit)))
def reqV (x : reqT.V) : Rq := (x.1, x.2.1, x.2.2.1, x.2.2.2.1)
theorem req_enc {h : AHeap} {x : reqT.V} {cs : List Value} (r : Gx.Rep h reqT x cs) : cs = encQ (reqV x) ∧ (reqV x).2.2.1.size ≤ 9223372036854775807 := by
 obtain ⟨_, _, rfl, ⟨rfl, _⟩, _, _, rfl, ⟨rfl, _⟩, _, _, rfl, ⟨rfl, hn⟩, _, _, rfl, ⟨rfl, _⟩, rfl⟩ := r
 exact ⟨rfl, hn⟩
end Gs
namespace Gs
open Go Gx
theorem Mk.rts' {base q : Nat} {h h' : AHeap} {s r : Slc} {ss : List Sb} {ts : List Tb} {S : Nat → Prop} (M : Mk base q h s r ss ts) (c : Chg S h h') (hS : ∀ y, TSet ts y → ¬ S y) (hr : ∀ a, r.a = some a → ¬ S a.block) : Rts h' r 0 ts := by
 have T := M.rts
 refine ⟨Row.chg T.rd c hr, T.fr, fun i t hi => ⟨?_, (T.st i t hi).2⟩, T.ap⟩
 obtain ⟨b1, b2, b3, b4⟩ := M.tr t (mem_of hi)
 rw [b2]
 exact ⟨⟨(), ⟨none, 0, 0⟩, c.got b4 (hS _ ⟨t, mem_of hi, rfl⟩) b1, AccV.nil _ _ _ _ _⟩, Nat.lt_of_lt_of_le b4 c.nx⟩
theorem copyQ {h : AHeap} {s : Slc} {xs : List Rq} (R : RowW 4 encQ h s xs) (hl : xs.length ≤ 1048576) {H : AHeap} (k : Keeps h H) (n : H.next = h.next + 1) :
  ∃ s' h', Gx.rdS 4 s H = some (xs.flatMap encQ) ∧ appendA 4 48 32 H (⟨some ⟨h.next, 0, some 0⟩, 0, 0⟩ : Slc) (xs.flatMap encQ) s.len = some (s', h') ∧ AccV 4 encQ 32 h.next h' s' xs ∧ Keeps h h' := by
 obtain ⟨s7, h7, a7, A7, c7, d7⟩ := (empty0 (w := 4) (enc := encQ) (e := 32) (base := h.next) (h := H) (b := h.next) (Nat.le_refl _) (by omega)).app encQ_len encQ_one xs (bytes := 48) (by decide) (by simp; omega) (by omega)
 rw [show s.len = xs.length from R.len]
 rw [List.nil_append] at A7
 exact ⟨s7, h7, RowW.rdS (R.keeps k) encQ_len (by decide), a7, A7, Chg.beh k c7 fun y hy ⟨a, ha, q⟩ => by cases ha; simp only at q; omega⟩
noncomputable def DD (k : Nat) : CallF := lvl k 60
theorem DD_sound (k : Nat) : CSound Go.Proofs.Try.prog 0 (DD k) := lvl_sound k 60
def needQ (qs : List Rq) : Nat := need (qs.map (·.2.2.1)) + qs.length + 10000000
theorem needQ_ok {k : Nat} {qs : List Rq} (hk : needQ qs ≤ k) (hz : ∀ q ∈ qs, q.2.2.1.size ≤ 9223372036854775807) : 10000000 ≤ k ∧ qs.length < k ∧ ∀ q ∈ qs, NameOk k q := by
 unfold needQ at hk
 have ng := need_ge (qs.map (·.2.2.1))
 exact ⟨by omega, by omega, fun q hq => ⟨by have := need_lt (List.mem_map.2 ⟨q, hq, rfl⟩ : q.2.2.1 ∈ qs.map (·.2.2.1)); omega, hz q hq⟩⟩
def needR (l : List reqT.V) : Nat := needQ (l.map reqV)
theorem reqs_rep {k : Nat} {l : List reqT.V} (hk : needR l ≤ k) {h : AHeap} {sl : Slc} (R : Gx.Rep h (.list reqT) l [.slice sl.a sl.len sl.cap]) (N : l.length ≤ 9223372036854775807) :
  RowW 4 encQ h sl (l.map reqV) ∧ 10000000 ≤ k ∧ (l.map reqV).length < k ∧ (∀ q ∈ l.map reqV, NameOk k q) ∧ (l.map reqV).length ≤ 9223372036854775807 := by
 obtain ⟨a, b, c⟩ := needQ_ok hk fun x hx => by
  obtain ⟨y, hy, rfl⟩ := List.mem_map.1 hx
  obtain ⟨cs, hr⟩ := R.each y hy
  exact (req_enc hr).2
 exact ⟨R.rowW fun x cs hr => (req_enc hr).1, a, b, c, by rw [List.length_map]; exact N⟩
end Gs
namespace Gs
open Go Gx
def jobAt (qs : List Rq) (ss : List Sb) (i : Nat) : Prg := askAll (qs.drop i) (ansL (qs.take i) ss).2 fun ys => finP (Rz.of ys)
theorem ansL_snoc : ∀ (qs : List Rq) (q : Rq) (ss : List Sb), ansL (qs ++ [q]) ss = ((ansS (ansL qs ss).1 q).1, (ansL qs ss).2 ++ [(ansS (ansL qs ss).1 q).2])
 | [], q, ss => rfl
 | r :: qs, q, ss => by simp only [List.cons_append, ansL, ansL_snoc qs q]
theorem ansL_set (y : Nat) : ∀ (qs : List Rq) (ss : List Sb), SSet (ansL qs ss).1 y ↔ SSet ss y
 | [], _ => Iff.rfl
 | q :: qs, ss => (ansL_set y qs _).trans (SSet_ans ss q y)
theorem jobAt_next {qs : List Rq} {i : Nat} {q : Rq} (hq : qs[i]? = some q) : qs.take (i + 1) = qs.take i ++ [q] := by rw [List.take_add_one, hq]; rfl
theorem jobAt_ask {qs : List Rq} {ss : List Sb} {i : Nat} {q : Rq} (hq : qs[i]? = some q) : ∃ kk, jobAt qs ss i = .ask q kk ∧ kk (ansS (ansL (qs.take i) ss).1 q).2 = jobAt qs ss (i + 1) := by
 refine ⟨fun y => askAll (qs.drop (i + 1)) ((ansL (qs.take i) ss).2 ++ [y]) fun ys => finP (Rz.of ys), ?_, ?_⟩
 ·unfold jobAt; rw [dropc hq]; rfl
 ·unfold jobAt; rw [jobAt_next hq, ansL_snoc]
theorem jobAt_over {qs : List Rq} {ss : List Sb} {i : Nat} (hi : i ≤ qs.length) : (jobAt qs ss i).over = decide (i = qs.length) := by
 by_cases c : i = qs.length
 ·subst c
  unfold jobAt
  rw [List.drop_length, decide_eq_true rfl]; rfl
 ·obtain ⟨q, hq⟩ := isome (l := qs) (i := i) (by omega)
  obtain ⟨kk, e, _⟩ := jobAt_ask (ss := ss) hq
  rw [e, decide_eq_false c]; rfl
def TF (O : Nat → Prop) (jb : Nat) (ss : List Sb) (sl : Slc) (y : Nat) : Prop := JSet O jb y ∨ SSet ss y ∨ ofS sl y
structure TJ (k : Nat) (qs : List Rq) (ss : List Sb) (jb : Nat) (sl : Slc) (i : Nat) (O : Nat → Prop) (h : AHeap) : Prop where
 j : JobP (lvl k) 4 jb (jobAt qs ss i) i O h
 s : Sts h sl i (ansL (qs.take i) ss).1
 d : ∀ y, SSet ss y → ¬ JSet O jb y
 e : ∀ a, sl.a = some a → ¬ JSet O jb a.block
 lt : ∀ y, TF O jb ss sl y → y < h.next
theorem TJ.chg {S : Nat → Prop} {k : Nat} {qs : List Rq} {ss : List Sb} {jb : Nat} {sl : Slc} {i : Nat} {O : Nat → Prop} {h h' : AHeap} (J : TJ k qs ss jb sl i O h) (c : Chg S h h') (hs : ∀ y, TF O jb ss sl y → ¬ S y) : TJ k qs ss jb sl i O h' :=
 ⟨J.j.chg c fun y hy => hs y (.inl hy), J.s.chg c (fun y hy => hs y (.inr (.inl ((ansL_set y _ _).1 hy)))) fun a ha => hs _ (.inr (.inr ⟨a, ha, rfl⟩)), J.d, J.e, fun y hy => Nat.lt_of_lt_of_le (J.lt y hy) c.nx⟩
theorem TJ.run {k n : Nat} (hn : 4 ≤ n) (hk : 100000 < k) {qs : List Rq} {ss : List Sb} {jb : Nat} {sl : Slc} {i : Nat} {O : Nat → Prop} {h : AHeap} (J : TJ k qs ss jb sl i O h) (hi : i < qs.length) (hq : qs.length ≤ 1000) (hnm : ∀ q ∈ qs, NameOk k q) :
  Gx.Wp (port_Run k (lvl k n) (some ⟨jb, 0, none⟩) sl 1 h) fun z => ∃ O', z.1 = (1, if i + 1 = qs.length then 0 else 2) ∧ TJ k qs ss jb sl (i + 1) O' z.2 ∧ Chg (TF O jb ss sl) h z.2 ∧ ∀ y, TF O' jb ss sl y → TF O jb ss sl y ∨ h.next ≤ y := by
 obtain ⟨q, hqi⟩ := isome hi
 obtain ⟨kk, e1, e2⟩ := jobAt_ask (ss := ss) hqi
 have sS : ∀ y, SSet (ansL (qs.take i) ss).1 y ↔ SSet ss y := fun y => ansL_set y _ _
 have R : RunR k 1 (jobAt qs ss i) (ansL (qs.take i) ss).1 (jobAt qs ss (i + 1)) (ansS (ansL (qs.take i) ss).1 q).1 1 := by
  rw [e1]
  refine RunR.step (most := 0) (s := 0) (hnm q (mem_of hqi)) ?_
  rw [e2]; exact .stop
 refine Gx.Wp.mono (Run_P (L := lvl k) (N := 4) hn R J.j J.s (fun y hy => ?_) (fun a ha => ?_) (by omega) (by omega) (by omega)) fun z hz => ?_
 ·have hy := (sS y).1 hy
  exact ⟨J.lt y (.inr (.inl hy)), J.d y hy⟩
 ·exact ⟨J.lt _ (.inr (.inr ⟨a, ha, rfl⟩)), J.e a ha⟩
 ·obtain ⟨O', v, j', sub, far, sset, s', c⟩ := hz
  have hov := jobAt_over (qs := qs) (ss := ss) (i := i + 1) (by omega)
  have nx := c.nx
  have fr : ∀ y, JSet O' jb y → JSet O jb y ∨ h.next ≤ y := fun y hy => hy.elim (fun hy => (far y hy).imp .inl id) fun hy => .inl (.inr hy)
  refine ⟨O', ?_, ⟨j', ?_, fun y hy z => ?_, fun a ha z => ?_, fun y hy => ?_⟩, c.wk fun y _ z => z.elim (fun z => .inr (.inl ((sS y).1 z))) fun z => .inl (.inl z), fun y hy => ?_⟩
  ·rw [v, hov]
   by_cases ce : i + 1 = qs.length <;> simp [ce]
  ·rw [jobAt_next hqi, ansL_snoc]; exact s'
  ·rcases fr y z with z | z
   ·exact J.d y hy z
   ·have := J.lt y (.inr (.inl hy)); omega
  ·rcases fr _ z with z | z
   ·exact J.e a ha z
   ·have := J.lt _ (.inr (.inr ⟨a, ha, rfl⟩)); omega
  ·rcases hy with hy | hy
   ·rcases hy with hy | rfl
    ·exact j'.lt y hy
    ·exact j'.lj
   ·exact Nat.lt_of_lt_of_le (J.lt y (.inr hy)) nx
  ·rcases hy with hy | hy
   ·exact (fr y hy).imp .inl id
   ·exact .inl (.inr hy)
end Gs
namespace Gs
open Go Gx
theorem End_overP {k : Nat} (D : CallF) {h : AHeap} {ib : Nat} {q : Rq} {st : Nat} {code n : Int} {ids texts : Slc} (hb : h.get ib = some (.cells (ioC q .nilFunc true code n ids texts st) 130 true 0)) (hlt : ib < h.next) (r : Int × ByteArray × Int × Slc × Slc × Slc × Slc) : Gx.Wp (port_IO_End k D (some ⟨ib, 0, none⟩) r h) fun z => Keeps h z.2 := by
 simp only [port_IO_End]
 have k1 := Keeps.new h (.cells [.int .i64 r.1, .string r.2.1, .int .i64 r.2.2.1, .slice r.2.2.2.1.a r.2.2.2.1.len r.2.2.2.1.cap, .slice r.2.2.2.2.1.a r.2.2.2.2.1.len r.2.2.2.2.1.cap, .slice r.2.2.2.2.2.1.a r.2.2.2.2.2.1.len r.2.2.2.2.2.1.cap, .slice r.2.2.2.2.2.2.a r.2.2.2.2.2.2.len r.2.2.2.2.2.2.cap] 60 true 0)
 exact Gx.Wp.bnd rfl (Gx.Wp.bnd (ldB_at (k1.got hlt hb) rfl) (Gx.Wp.ifn (fun z => by cases z) (Gx.Wp.of k1)))
def done : ByteArray := ⟨#[100, 111, 110, 101]⟩
def akC (ib : Nat) (l one both : Slc) : List Value := [ptr ib, .slice l.a l.len l.cap, .slice one.a one.len one.cap, .slice both.a both.len both.cap]
def Told (ab ib : Nat) (ys1 ys2 : List Ry) (h : AHeap) : Prop :=
 ∃ l one both xs1 xs2, h.get ab = some (.cells (akC ib l one both) 82 true 0) ∧ RowW 3 encP h one xs1 ∧ Say h xs1 ys1 ∧ RowW 3 encP h both xs2 ∧ Say h xs2 ys2
def asksZ (n : Nat) : Rz := ⟨0, n, [], [done]⟩
def asks2 (ab ib : Nat) (qs : List Rq) (ys1 : List Ry) : Prg := askAll qs [] fun ys2 => .fin (asksZ ys2.length) (Told ab ib ys1 ys2)
structure KS (ab ib : Nat) (qs : List Rq) (O : Nat → Prop) (h : AHeap) (l one : Slc) (xs : List Rp) (ys : List Ry) : Prop where
 own : But O ib ab
 blk : h.get ab = some (.cells (akC ib l one nils) 82 true 0)
 rl : RowW 4 encQ h l qs
 lo : ∀ a, l.a = some a → But O ib a.block ∧ a.block ≠ ab ∧ ∀ b, one.a = some b → a.block ≠ b.block
 ro : AccV 3 encP 29 0 h one xs
 oo : ∀ a, one.a = some a → But O ib a.block ∧ a.block ≠ ab
 say : Say h xs ys
 so : ∀ (i : Nat) (z : Rp), xs[i]? = some z → ∀ a, z.2.2.a = some a → But O ib a.block ∧ a.block ≠ ab ∧ ∀ b, one.a = some b → a.block ≠ b.block
 le : xs.length ≤ qs.length
theorem RowW.chgN {α : Type} {w : Nat} {enc : α → List Value} {S : Nat → Prop} {h h' : AHeap} {s : Slc} {xs : List α} (R : RowW w enc h s xs) (c : Chg S h h') (hs : xs ≠ [] → ∀ a, s.a = some a → ¬ S a.block) : RowW w enc h' s xs := by
 cases xs with
 | nil => exact ⟨R.len, fun i x hx => by simp at hx⟩
 | cons x xs => exact R.chg c (hs (by simp))
theorem Row.chgN {α : Type} {enc : α → Value} {S : Nat → Prop} {h h' : AHeap} {s : Slc} {xs : List α} (R : Row enc h s xs) (c : Chg S h h') (hs : xs ≠ [] → ∀ a, s.a = some a → ¬ S a.block) : Row enc h' s xs := by
 cases xs with
 | nil => exact ⟨R.1, fun i x hx => by simp at hx⟩
 | cons x xs => exact Row.chg R c (hs (by simp))
theorem notAk {h : AHeap} {ab ib : Nat} {l one both : Slc} (hb : h.get ab = some (.cells (akC ib l one both) 82 true 0)) {s : Slc} {xs : List Rp} (R : RowW 3 encP h s xs) (hx : xs ≠ []) {a : Addr} (ha : s.a = some a) : a.block ≠ ab := by
 obtain ⟨x, t, rfl⟩ := List.exists_cons_of_ne_nil hx
 obtain ⟨a', c, e, r, fz, h1, h2, h3, h4⟩ := R.at' 0 x rfl
 rw [ha] at h1; cases h1
 rintro rfl
 rw [hb] at h3; cases h3
 have := h4 0 (.int .i64 x.1) rfl
 match a.off + 0 * 3 + 0, this with
 | 0, z => cases z
 | 1, z => cases z
 | 2, z => cases z
 | 3, z => cases z
theorem notAkS {h : AHeap} {ab ib : Nat} {l one both : Slc} (hb : h.get ab = some (.cells (akC ib l one both) 82 true 0)) {s : Slc} {xs : List ByteArray} (R : Row encS h s xs) (hx : xs ≠ []) {a : Addr} (ha : s.a = some a) : a.block ≠ ab := by
 obtain ⟨x, t, rfl⟩ := List.exists_cons_of_ne_nil hx
 obtain ⟨a', c, e, r, fz, h1, h2, h3, h4⟩ := R.2 0 x rfl
 rw [ha] at h1; cases h1
 rintro rfl
 rw [hb] at h3; cases h3
 match a.off + 0, h4 with
 | 0, z => cases z
 | 1, z => cases z
 | 2, z => cases z
 | 3, z => cases z
theorem AccV.agr {α : Type} {w : Nat} {enc : α → List Value} {e : TypeId} {base : Nat} {O : Nat → Prop} {h h' : AHeap} {s : Slc} {xs : List α} (A : AccV w enc e base h s xs) (a : Agr O h h') (o : OwnS O s) : AccV w enc e base h' s xs := by
 refine ⟨A.st.imp id ?_, fun b hb => ⟨Nat.lt_of_lt_of_le (A.lt b hb).1 a.nx, (A.lt b hb).2⟩⟩
 rintro ⟨b, h1, h2, h3⟩
 exact ⟨b, h1, (a.eq b (o ⟨b, 0, some (w + 1)⟩ (by rw [h1]))).trans h2, h3⟩
theorem KS.frame {ab ib : Nat} {qs : List Rq} {O P : Nat → Prop} {h h' : AHeap} {l one : Slc} {xs : List Rp} {ys : List Ry} (S : KS ab ib qs O h l one xs ys) (sub : ∀ y, O y → P y) (a : Agr (But O ib) h h') : KS ab ib qs P h' l one xs ys := by
 have up : ∀ y, But O ib y → But P ib y := fun y o => ⟨sub y o.1, o.2⟩
 exact ⟨up _ S.own, (a.eq _ S.own).trans S.blk, RowW.agr S.rl a fun b hb => (S.lo b hb).1, fun b hb => ⟨up _ (S.lo b hb).1, (S.lo b hb).2⟩, S.ro.agr a fun b hb => (S.oo b hb).1, fun b hb => ⟨up _ (S.oo b hb).1, (S.oo b hb).2⟩, S.say.agr a fun i z hz b hb => (S.so i z hz b hb).1, fun i z hz b hb => ⟨up _ (S.so i z hz b hb).1, (S.so i z hz b hb).2⟩, S.le⟩
theorem then118 {k N ab ib : Nat} {qs : List Rq} {O : Nat → Prop} {h : AHeap} {l one : Slc} {xs : List Rp} {ys : List Ry} (S : KS ab ib qs O h l one xs ys) : ThenP (lvl k) N 1 ib 118 ⟨[ptr ab]⟩ ⟨[]⟩ qs.length (fun ys2 => .fin (asksZ ys2.length) (Told ab ib ys ys2)) O h := by
 intro n hn P h' m st q sub ag lt hm hP hio ys2 xs2 sl R2 S2 hys ow so sm
 obtain ⟨n', rfl⟩ : ∃ n', n = n' + 1 := ⟨n - 1, by omega⟩
 have S' := S.frame sub ag
 refine Does.of (X := law08_asker_end k (lvl k n') (some ⟨ab, 0, none⟩) sl h') (by decide) (fun R κ => rfl) ?_
 simp only [law08_asker_end]
 have la := lt _ S'.own.1
 have li := lt _ hP
 refine Gx.Wp.bnd rfl (Gx.Wp.st (sp := none) S'.blk (by show 0 + 3 < 4; omega) rfl fun H1 (c1 : Chg (· = ab) h' H1) n1 g1 => ?_)
 have g1 : H1.get ab = some (.cells (akC ib l one sl) 82 true 0) := g1
 refine Gx.Wp.bnd rfl (Gx.Wp.bnd (ldP_at g1 rfl) (Gx.Wp.new fun H2 k2 n2 g2 => ?_))
 have hio1 := k2.got (by omega) (c1.got (by omega) (fun z => S'.own.2 z.symm) hio)
 have len : sl.len = ys2.length := by rw [R2.len, S2.1]
 refine Gx.Wp.call (End_spec (lvl k n') hio1 (by omega)) fun z hz => ?_
 obtain ⟨c3, g3⟩ := hz
 have n3 := c3.nx
 have ga3 := c3.got (by omega) (fun z => S'.own.2 z) (k2.got (by omega) g1)
 refine Gx.Wp.bnd rfl (Gx.Wp.bnd (ldP_at ga3 rfl) (Gx.Wp.call (End_overP (lvl k n') g3 (by omega) _) fun w k4 => Gx.Wp.of ?_))
 have n4 := k4.nx
 have cA : Chg (fun y => y = ab ∨ y = ib) h' w.2 := Chg.beh (T := (· = ib)) ((c1.wk fun y _ q => .inl q).trans (Chg.keeps k2)) (c3.trans (Chg.keeps k4)) fun y hy q => .inr q
 have g4 := k4.got (by omega) g3
 have ga4 := k4.got (by omega) ga3
 have d4 : w.2.get H1.next = some (.cells [.string done] 9 true 0) := k4.got (by omega) (c3.got (by omega) (by omega) g2)
 refine ⟨cA.wk fun y _ q => q.elim (fun q => .inl (q ▸ S'.own.1)) fun q => .inl (q ▸ hP), fun h5 a5 => ?_, .inl ⟨q, nils, ⟨some ⟨H1.next, 0, some 0⟩, 1, 1⟩, ?_, ⟨rfl, fun i x hx => by simp [asksZ] at hx⟩, ?_, (fun a ha => by cases ha), fun a ha => ?_⟩⟩
 ·have nS : ∀ {y}, y ≠ ab → y ≠ ib → ¬ (y = ab ∨ y = ib) := fun h1 h2 z => z.elim h1 h2
  have og : ∀ {y}, But P ib y → But (Gr P m w.2) ib y := fun o => ⟨.inl o.1, o.2⟩
  have rb : ∀ {s : Slc} {zs : List Rp}, RowW 3 encP h' s zs → OwnS (But (In P m) ib) s → RowW 3 encP h5 s zs := fun {s zs} R o => by
   cases zs with
   | nil => exact ⟨R.len, fun i x hx => by simp at hx⟩
   | cons z zs =>
    have R4 := RowW.chgN R cA fun hx a ha => nS (notAk S'.blk R hx ha) (o a ha).2
    refine RowW.agr R4 a5 fun a ha => ⟨?_, (o a ha).2⟩
    obtain ⟨a', c, e, r, fz, h1, h2, _⟩ := R.at' 0 z rfl
    rw [ha] at h1; cases h1
    rcases (o a ha).1 with q | q
    ·exact .inl q
    ·exact .inr ⟨q, by dsimp only; omega⟩
  have rs : ∀ {zs : List Rp} {vs : List Ry}, Say h' zs vs → (∀ (i : Nat) (z : Rp), zs[i]? = some z → OwnS (But (In P m) ib) z.2.2) → Say h5 zs vs := fun {zs vs} s o => ⟨s.1, fun i z v hz hv => ⟨(s.2 i z v hz hv).1, (s.2 i z v hz hv).2.1, by
   have R := (s.2 i z v hz hv).2.2
   obtain ⟨v1, v2, names⟩ := v
   cases names with
   | nil => exact ⟨R.1, fun i x hx => by simp at hx⟩
   | cons nm1 names =>
    have R4 := Row.chgN R cA fun hx a ha => nS (notAkS S'.blk R hx ha) (o i z hz a ha).2
    refine Row.agr R4 a5 fun a ha => ⟨?_, (o i z hz a ha).2⟩
    obtain ⟨a', c, e, r, fz, h1, h2, _⟩ := R.2 0 nm1 rfl
    rw [ha] at h1; cases h1
    rcases (o i z hz a ha).1 with q | q
    ·exact .inl q
    ·exact .inr ⟨q, by dsimp only; omega⟩⟩⟩
  exact ⟨l, one, sl, xs, xs2, (a5.eq _ (og S'.own)).trans ga4, rb (S'.ro.row encP_len) (fun a ha => ⟨.inl (S'.oo a ha).1.1, (S'.oo a ha).1.2⟩), rs S'.say (fun i z hz a ha => ⟨.inl (S'.so i z hz a ha).1.1, (S'.so i z hz a ha).1.2⟩), rb R2 ow, rs S2 so⟩
 ·rw [g4, len]; rfl
 ·exact row_lit [done] (e := 9) (r := true) (fz := 0) d4 (by dsimp only; omega)
 ·cases ha
  exact ⟨.inr ⟨by show m ≤ H1.next; omega, by show H1.next < w.2.next; omega⟩, by show H1.next ≠ ib; omega⟩
end Gs
namespace Gs
open Go Gx
section
variable {k N ab ib : Nat} {qs : List Rq}
def NextK (k N ab ib : Nat) (qs : List Rq) (r : Nat) : Prop :=
 ∀ {P : Nat → Prop} {h : AHeap} {l one : Slc} {xs : List Rp} {ys : List Ry} {m st n : Nat} {q : Rq}, xs.length + r = qs.length → 3 ≤ n → KS ab ib qs P h l one xs ys → P ib → (∀ y, P y → y < m) → m ≤ h.next →
  h.get ib = some (.cells (ioC q .nilFunc false 0 0 nils nils st) 130 true 0) →
  Gx.Wp (law08_asker_next k (lvl k n) (some ⟨ab, 0, none⟩) h) fun z => Chg (In P m) h z.2 ∧ IoQ (lvl k) N ib (askAll (qs.drop xs.length) ys (asks2 ab ib qs)) st (Gr P m z.2) z.2
theorem takeK {r : Nat} (nx : NextK k N ab ib qs r) {P : Nat → Prop} {h : AHeap} {l one : Slc} {xs : List Rp} {ys : List Ry} {m st n : Nat} {q : Rq} (hr1 : xs.length + (r + 1) = qs.length) (hq : qs.length ≤ 1048576) (hn : 4 ≤ n) (S : KS ab ib qs P h l one xs ys) (hP : P ib) (lt : ∀ y, P y → y < m) (hm : m ≤ h.next)
  (hio : h.get ib = some (.cells (ioC q .nilFunc false 0 0 nils nils st) 130 true 0)) {a : Ry} {sl : Slc} (R : Row encS h sl a.2.2) (ow : OwnS (fun b => m ≤ b ∧ b < h.next) sl) :
  Gx.Wp (law08_asker_take k (lvl k n) (some ⟨ab, 0, none⟩) (a.1, a.2.1, sl) h) fun z => Chg (In P m) h z.2 ∧ IoQ (lvl k) N ib (askAll (qs.drop (xs.length + 1)) (ys ++ [a]) (asks2 ab ib qs)) st (Gr P m z.2) z.2 := by
 simp only [law08_asker_take]
 have la := lt _ S.own.1
 have li := lt _ hP
 refine Gx.Wp.new fun H1 k1 n1 g1 => Gx.Wp.bnd (sldA_at g1 rfl) (Gx.Wp.bnd rfl (Gx.Wp.new fun H4 k4 n4 g4 => ?_))
 have a1 := k1.got (by omega) S.blk
 have a4 := k4.got (by omega) a1
 have g4 : H4.get H1.next = some (.cells (encP (a.1, a.2.1, sl)) 29 true 0) := g4
 have rd : Gx.rdS 3 (⟨some ⟨H1.next, 0, some 0⟩, 1, 1⟩ : Slc) H4 = some (encP (a.1, a.2.1, sl)) := by
  have := rdL_all g4
  rw [encP_len] at this
  simpa [Gx.rdS] using this
 refine Gx.Wp.bnd rfl (Gx.Wp.bnd (sldL_at a4 rfl) (Gx.Wp.gp (ssw1 (bnd (sldL_at a1 rfl) rfl)) (Gx.Wp.bnd rd ?_)))
 have k14 : Keeps h H4 := k1.trans k4
 obtain ⟨s', h9, a9, A9, c9, d9⟩ := (S.ro.keeps k14).app encP_len encP_one [(a.1, a.2.1, sl)] (bytes := 48) (by decide) (by have := S.le; simp only [List.length_cons, List.length_nil]; omega) (Nat.zero_le _)
 have a9 : appendA 3 48 29 H4 ⟨one.a, one.len, one.cap⟩ (encP (a.1, a.2.1, sl)) 1 = some (s', h9) := by simpa using a9
 refine Gx.Wp.bnd a9 ?_
 dsimp only
 have n9 := c9.nx
 have nab : ¬ ofS one ab := fun ⟨b, hb, q⟩ => (S.oo b hb).2 q.symm
 have nib : ¬ ofS one ib := fun ⟨b, hb, q⟩ => (S.oo b hb).1.2 q.symm
 have ab9 := c9.got (by omega) nab a4
 refine Gx.Wp.bnd rfl (Gx.Wp.st (sp := none) ab9 (by show 0 + 2 < 4; omega) rfl fun H12 (c12 : Chg (· = ab) h9 H12) n12 g12 => ?_)
 have g12 : H12.get ab = some (.cells (akC ib l s' nils) 82 true 0) := g12
 have cA : Chg (fun y => ofS one y ∨ y = ab) h H12 := ((Chg.keeps k14).trans (c9.wk fun y _ q => .inl q)).trans (c12.wk fun y _ q => .inr q)
 have hio12 := cA.got (by omega) (fun z => z.elim nib fun z => S.own.2 z.symm) hio
 have upP : ∀ {y}, But P ib y → But (Gr P m H12) ib y := fun o => ⟨.inl o.1, o.2⟩
 have sb : ∀ b, s'.a = some b → (H4.next ≤ b.block ∧ b.block < H12.next) ∨ one.a = some b := fun b hb => (d9 b hb).imp (fun q => ⟨q, by have := (A9.lt b hb).1; omega⟩) id
 have n14 : H4.next = h.next + 2 := by omega
 have S12 : KS ab ib qs (Gr P m H12) H12 l s' (xs ++ [(a.1, a.2.1, sl)]) (ys ++ [a]) := by
  refine ⟨upP S.own, g12, S.rl.chg cA fun b hb z => ?_, fun b hb => ⟨upP (S.lo b hb).1, (S.lo b hb).2.1, fun e he => ?_⟩, A9.chg c12 fun b hb z => ?_, fun b hb => ?_, ?_, fun i z hz b hb => ?_, by simp; omega⟩
  ·rcases z with ⟨e, he, z⟩ | z
   ·exact (S.lo b hb).2.2 e he z
   ·exact (S.lo b hb).2.1 z
  ·rcases sb e he with q | q
   ·have := lt _ (S.lo b hb).1.1; omega
   ·exact (S.lo b hb).2.2 e q
  ·rcases sb b hb with q | q
   ·omega
   ·exact (S.oo b q).2 z
  ·rcases sb b hb with q | q
   ·exact ⟨⟨.inr ⟨by omega, q.2⟩, by omega⟩, by omega⟩
   ·exact ⟨upP (S.oo b q).1, (S.oo b q).2⟩
  ·refine ⟨by simp [S.say.1], fun i u v hu hv => ?_⟩
   by_cases ci : i < xs.length
   ·rw [List.getElem?_append_left ci] at hu
    rw [List.getElem?_append_left (by rw [← S.say.1]; exact ci)] at hv
    obtain ⟨z1, z2, z3⟩ := S.say.2 i u v hu hv
    refine ⟨z1, z2, Row.chg z3 cA fun b hb z => ?_⟩
    rcases z with ⟨e, he, z⟩ | z
    ·exact (S.so i u hu b hb).2.2 e he z
    ·exact (S.so i u hu b hb).2.1 z
   ·rw [List.getElem?_append_right (by omega)] at hu
    rw [List.getElem?_append_right (by rw [← S.say.1]; omega)] at hv
    rw [← S.say.1] at hv
    have i0 : i - xs.length = 0 := by
     have := (List.getElem?_eq_some_iff.1 hu).1
     simp at this; omega
    rw [i0] at hu hv
    simp at hu hv
    subst hu hv
    refine ⟨rfl, rfl, Row.chg R cA fun b hb z => ?_⟩
    have q := ow b hb
    rcases z with ⟨e, he, z⟩ | z
    ·have := lt _ (S.oo e he).1.1; omega
    ·omega
  ·by_cases ci : i < xs.length
   ·rw [List.getElem?_append_left ci] at hz
    refine ⟨upP (S.so i z hz b hb).1, (S.so i z hz b hb).2.1, fun e he => ?_⟩
    rcases sb e he with q | q
    ·have := lt _ (S.so i z hz b hb).1.1; omega
    ·exact (S.so i z hz b hb).2.2 e q
   ·rw [List.getElem?_append_right (by omega)] at hz
    have i0 : i - xs.length = 0 := by
     have := (List.getElem?_eq_some_iff.1 hz).1
     simp at this; omega
    rw [i0] at hz
    simp at hz
    subst hz
    have q := ow b hb
    refine ⟨⟨.inr ⟨q.1, by omega⟩, by omega⟩, by omega, fun e he => ?_⟩
    rcases sb e he with w | w
    ·omega
    ·have := lt _ (S.oo e w).1.1; omega
 obtain ⟨n', rfl⟩ : ∃ n', n = n' + 1 := ⟨n - 1, by omega⟩
 have w := nx (n := n') (m := H12.next) (st := st) (q := q) (by simp; omega) (by omega) S12 (.inl hP) (fun y o => o.elim (fun o => by have := lt y o; omega) fun o => o.2) (Nat.le_refl _) hio12
 have e81 : lvl k (n' + 1) (Unit × AHeap) 81 [.pointer (some ⟨ab, 0, none⟩)] H12 (fun _ h14 => some ((), h14)) = (law08_asker_next k (lvl k n') (some ⟨ab, 0, none⟩) H12).bind fun r => some ((), r.2) := rfl
 rw [e81]
 refine Gx.Wp.call w fun z5 q5 => ?_
 obtain ⟨c5, i5⟩ := q5
 have n5 := c5.nx
 refine Gx.Wp.of ⟨Chg.beh (cA.wk fun y _ q => .inl (q.elim (fun ⟨e, he, q⟩ => q ▸ (S.oo e he).1.1) fun q => q ▸ S.own.1)) c5 fun y hy q => ?_, ?_⟩
 ·rcases q with (q | q) | q
  ·exact .inl q
  ·exact .inr q.1
  ·exact .inr (by omega)
 ·rw [List.length_append] at i5
  refine i5.mono fun y q => ?_
  rcases q with (q | q) | q
  ·exact .inl q
  ·exact .inr ⟨q.1, by dsimp only; omega⟩
  ·exact .inr ⟨by omega, q.2⟩
theorem nextK (hN : 6 ≤ N) (hq : qs.length ≤ 1048576) : ∀ r, NextK k N ab ib qs r := fun r => by
 induction r with
 | zero =>
  intro P h l one xs ys m st n q hr hn S hP lt hm hio
  have hc : xs.length = qs.length := by omega
  simp only [law08_asker_next]
  have lo : one.len = xs.length := (S.ro.row encP_len).len
  have ll : l.len = qs.length := S.rl.len
  refine Gx.Wp.bnd rfl (Gx.Wp.bnd (sldL_at S.blk rfl) (Gx.Wp.bnd rfl (Gx.Wp.bnd (sldL_at S.blk rfl) (Gx.Wp.ifn (by simp [lo, ll]; omega) ?_))))
  refine Gx.Wp.bnd rfl (Gx.Wp.bnd (ldP_at S.blk rfl) (Gx.Wp.bnd rfl (Gx.Wp.bnd (sldL_at S.blk rfl) ?_)))
  refine Gx.Wp.call (All_io (k := k) (N := N) (c := 1) (n := n) (qs := qs) (l := ⟨l.a, l.len, l.cap⟩) (by omega) (by omega) (then118 S) hP lt hm hio S.rl hq) fun z hz => Gx.Wp.of ⟨hz.1, ?_⟩
  rw [hc, List.drop_length]
  exact hz.2
 | succ r ih =>
  intro P h l one xs ys m st n q hr hn S hP lt hm hio
  simp only [law08_asker_next]
  have lo : one.len = xs.length := (S.ro.row encP_len).len
  have ll : l.len = qs.length := S.rl.len
  obtain ⟨q', hq'⟩ := isome (l := qs) (i := xs.length) (by omega)
  obtain ⟨p, b1, b2, _, _⟩ := S.rl.ld encQ_len (by decide) hq'
  refine Gx.Wp.bnd rfl (Gx.Wp.bnd (sldL_at S.blk rfl) (Gx.Wp.bnd rfl (Gx.Wp.bnd (sldL_at S.blk rfl) (Gx.Wp.ifp (by simp [lo, ll]; omega) ?_))))
  refine Gx.Wp.bnd rfl (Gx.Wp.bnd (ldP_at S.blk rfl) (Gx.Wp.bnd rfl (Gx.Wp.bnd (sldL_at S.blk rfl) (Gx.Wp.bnd rfl (Gx.Wp.bnd (sldL_at S.blk rfl) ?_)))))
  dsimp only
  rw [lo]
  refine Gx.Wp.bnd b1 (Gx.Wp.bnd b2 (Gx.Wp.bnd rfl (Gx.Wp.call (Ask_spec (q' := q') (lvl k n) hio (by have := lt _ hP; omega)) fun z hz => ?_)))
  obtain ⟨cz, gz⟩ := hz
  have agz : Agr (But P ib) h z.2 := chg_agr cz (fun y o => by have := lt _ o.1; omega) fun y o => o.2
  refine Gx.Wp.of ⟨cz.wk fun y _ q => .inl (q ▸ hP), ?_⟩
  rw [dropc hq']
  simp only [askAll]
  refine ⟨117, _, _, gz, fun n' hn' P' h' m' sub ag lt' hm' hio' a sl R ow sm => ?_⟩
  have S' := (S.frame (fun y o => (.inl o : Gr P m z.2 y)) agz).frame sub ag
  obtain ⟨n'', rfl⟩ : ∃ n'', n' = n'' + 1 := ⟨n' - 1, by omega⟩
  have w := takeK (N := N) ih hr hq (n := n'') (by omega) S' (sub _ (.inl hP)) lt' hm' hio' R ow
  exact Does.of (X := law08_asker_take k (lvl k n'') (some ⟨ab, 0, none⟩) (a.1, a.2.1, sl) h') (by decide) (fun R κ => rfl) w
end
def akZ (l : Slc) : List Value := [.pointer none, .slice l.a l.len l.cap, .slice none 0 0, .slice none 0 0]
def asksP (ab ib : Nat) (qs : List Rq) : Prg := askAll qs [] (asks2 ab ib qs)
theorem Asks_P {k n : Nat} (hn : 8 ≤ n) {h : AHeap} {ab : Nat} {l : Slc} {qs : List Rq} (hq : qs.length ≤ 1048576) (hb : h.get ab = some (.cells (akZ l) 82 true 0)) (hl : ab < h.next) (A : AccV 4 encQ 32 0 h l qs) (la : ∀ a, l.a = some a → a.block ≠ ab) :
  Gx.Wp (port_Start k (lvl k n) (.func (.func 38) ⟨[ptr ab]⟩ ⟨[]⟩) h) fun z => ∃ jb O, z.1 = some ⟨jb, 0, none⟩ ∧ Chg (fun y => y = ab ∨ ofS l y) h z.2 ∧ JobP (lvl k) 6 jb (asksP ab h.next qs) 0 O z.2 ∧ (∀ y, O y → (y = ab ∨ ofS l y) ∨ h.next ≤ y) ∧ h.next ≤ jb := by
 obtain ⟨n', rfl⟩ : ∃ n', n = n' + 1 := ⟨n - 1, by omega⟩
 obtain ⟨ib, eib⟩ : ∃ ib, ib = h.next := ⟨_, rfl⟩
 have W := Start_P (L := lvl k) (k := k) (n := n' + 1) (N := 6) (g := 38) (x := ⟨[ptr ab]⟩) (y := ⟨[]⟩) (p := asksP ab h.next qs) (O := fun y => y = ab ∨ ofS l y) (h := h) (fun y z => by
   rcases z with z | ⟨a, ha, z⟩
   ·omega
   ·have := (A.lt a ha).1; omega) fun h' kp h2 hio => ?_
 ·refine Gx.Wp.mono W fun z hz => ?_
  obtain ⟨jb, O, e, c, J, _, far, hj⟩ := hz
  exact ⟨jb, O, e, c, J, far, hj⟩
 ·rw [← eib] at hio h2 ⊢
  refine Does.of (X := law08_asker_begin k (lvl k n') (some ⟨ab, 0, none⟩) (some ⟨ib, 0, none⟩) h') (by decide) (fun R κ => rfl) ?_
  simp only [law08_asker_begin]
  have np := kp.nx
  refine Gx.Wp.bnd rfl (Gx.Wp.st (sp := none) (kp.got hl hb) (by show 0 + 0 < 4; omega) rfl fun H2 (c2 : Chg (· = ab) h' H2) n2 g2 => ?_)
  have g2 : H2.get ab = some (.cells (akC ib l nils nils) 82 true 0) := g2
  have nab : ∀ y, ofS l y → y ≠ ab := fun y ⟨a, ha, z⟩ => z ▸ la a ha
  have A2 := (A.keeps kp).chg c2 fun a ha z => la a ha z
  have lo2 : ∀ a, l.a = some a → a.block < ib := fun a ha => by have := (A.lt a ha).1; omega
  have S : KS ab ib qs (fun y => (y = ab ∨ ofS l y) ∨ y = ib) H2 l nils [] [] := ⟨⟨.inl (.inl rfl), by omega⟩, g2, A2.row encQ_len, fun a ha => ⟨⟨.inl (.inr ⟨a, ha, rfl⟩), by have := lo2 a ha; omega⟩, la a ha, fun b hb => by cases hb⟩, AccV.nil _ _ _ _ _, (fun a ha => by cases ha), ⟨rfl, fun i x y hx => by simp at hx⟩, (fun i z hz => by simp at hz), Nat.zero_le _⟩
  have w := nextK (k := k) (N := 6) (ab := ab) (ib := ib) (qs := qs) (by omega) hq qs.length (m := H2.next) (st := 0) (q := q0) (n := n') (by simp) (by omega) S (.inr rfl) (fun y z => by
   rcases z with (z | ⟨a, ha, z⟩) | z
   ·omega
   ·have := lo2 a ha; omega
   ·omega) (Nat.le_refl _) (c2.got (by omega) (by omega) hio)
  refine Gx.Wp.call w fun z hz => Gx.Wp.of ?_
  obtain ⟨c, i⟩ := hz
  have nz := c.nx
  have e0 : (askAll (qs.drop ([] : List Rp).length) [] (asks2 ab ib qs)) = asksP ab ib qs := by rw [List.length_nil, List.drop_zero]; rfl
  rw [e0] at i
  rw [n2] at c i
  exact ⟨(c2.wk fun y _ z => .inl (.inl (.inl z))).trans c, i⟩
end Gs
namespace Gs
open Go Gx
section
variable {k : Nat} {D : CallF} {r sl got : Slc} {qs : List Rq} {ts0 : List Tb} {ss0 : List Sb} {xs : List Rp} {ys : List Ry} {h0 : AHeap}
theorem answered_l0 (hk : 200000 < k) (bot) (R : RowW 4 encQ h0 sl qs) (ra : qs ≠ [] → ∀ a, sl.a = some a → ¬ TSet ts0 a.block) (G : RowW 3 encP h0 got xs) (ga : xs ≠ [] → ∀ a, got.a = some a → ¬ TSet ts0 a.block) (S : Say h0 xs ys) (gs : ∀ (i : Nat) z v, xs[i]? = some z → ys[i]? = some v → v.2.2 ≠ [] → ∀ a, z.2.2.a = some a → ¬ TSet ts0 a.block)
  (B : Bth ss0 ts0) (hys : ys = (ansRL qs ts0).2) {m0 : Nat} (hm : m0 + qs.length ≤ 1000)
  {Q : Bool × AHeap → Prop} {J : AHeap → Option (Bool × AHeap)} (hJ : ∀ h, Rts h r (m0 + qs.length) (ansRL qs ts0).1 → (∀ y, TSet (ansRL qs ts0).1 y ↔ TSet ts0 y) → Chg (TSet ts0) h0 h → Gx.Wp (J h) Q) :
  ∀ (d i : Nat) (h : AHeap), i + d = qs.length → Rts h r (m0 + i) (ansRL (qs.take i) ts0).1 → (∀ y, TSet (ansRL (qs.take i) ts0).1 y ↔ TSet ts0 y) → Chg (TSet ts0) h0 h →
   Gx.Wp (iterK bot (d + 1) (law08_answered_l0b k D J) r sl got (i : Int) h) Q := fun d => by
 have len : sl.len = qs.length := R.len
 induction d with
 | zero =>
  intro i h hd T hS c
  obtain rfl : i = qs.length := by omega
  rw [iterK_s]; simp only [law08_answered_l0b]
  rw [List.take_length] at T hS
  exact Gx.Wp.ifn (by rw [len]; simp) (hJ h T hS c)
 | succ d ih =>
  intro i h hd T hS c
  rw [iterK_s]; simp only [law08_answered_l0b]
  obtain ⟨q, hqi⟩ := isome (l := qs) (i := i) (by omega)
  have lx : xs.length = qs.length := by rw [S.1, hys, ansRL_len]
  obtain ⟨x, hxi⟩ := isome (l := xs) (i := i) (by omega)
  obtain ⟨v, hvi⟩ := isome (l := ys) (i := i) (by rw [← S.1]; omega)
  have eans : v = (ansR (ansRL (qs.take i) ts0).1 q).2 := by
   have e1 : qs = qs.take i ++ q :: qs.drop (i + 1) := by rw [← dropc hqi, List.take_append_drop]
   have e2 : ∀ (us bs : List Rq) (ts : List Tb), (ansRL (us ++ bs) ts).2 = (ansRL us ts).2 ++ (ansRL bs (ansRL us ts).1).2 := by
    intro us
    induction us with
    | nil => intro bs ts; rfl
    | cons a us iha => intro bs ts; simp only [List.cons_append, ansRL, iha]
   have e3 : ys = (ansRL (qs.take i) ts0).2 ++ ((ansR (ansRL (qs.take i) ts0).1 q).2 :: (ansRL (qs.drop (i + 1)) (ansR (ansRL (qs.take i) ts0).1 q).1).2) := by
    rw [hys]
    conv => lhs; rw [e1]
    rw [e2]; rfl
   rw [e3, List.getElem?_append_right (by rw [ansRL_len, List.length_take]; omega)] at hvi
   have : i - (ansRL (qs.take i) ts0).2.length = 0 := by rw [ansRL_len, List.length_take]; omega
   rw [this] at hvi
   simpa using hvi.symm
  obtain ⟨s1, s2, s3⟩ := S.2 i x v hxi hvi
  obtain ⟨p, b1, b2, _, _⟩ := (R.chg c fun a ha => ra (by rintro rfl; simp at hqi) a ha).ld encQ_len (by decide) hqi
  have Bi := (both_all (qs := qs.take i) B).2
  refine Gx.Wp.ifp (by rw [len]; simp; omega) (Gx.Wp.bnd b1 (Gx.Wp.bnd b2 (Gx.Wp.bnd rfl ?_)))
  refine Gx.Wp.call (RAnswer_spec D T q (by omega) (by omega) (by omega) (Bi.tot T (by omega))) fun a ha => ?_
  obtain ⟨ca, Ta, v1, v2, Aa⟩ := ha
  have ca' : Chg (TSet ts0) h a.2 := ca.wk fun y _ z => (hS y).1 z
  refine Gx.Wp.new fun H1 k1 n1 g1 => Gx.Wp.stL (sp := none) g1 rfl rfl rfl (by decide) fun H2 c2 n2 g2 => ?_
  have k2 : Keeps a.2 H2 := Chg.beh (T := (· = a.2.next)) k1 c2 fun y hy z => by omega
  have c02 : Chg (TSet ts0) h0 H2 := c.trans (ca'.trans (Chg.keeps k2))
  have G2 := G.chg c02 fun b hb => ga (by rintro rfl; simp at hxi) b hb
  obtain ⟨p2, p1, _, pI, pS⟩ := G2.ld encP_len (by decide) hxi
  have pL : Gx.ldL ⟨p2.block, p2.off + 2, none⟩ H2 = some ⟨x.2.2.a, x.2.2.len, x.2.2.cap⟩ := by
   obtain ⟨b, cc, e, r, fz, h1, h2, h3, h4⟩ := G2.at' i x hxi
   have : p2 = ⟨b.block, b.off + i * 3, none⟩ := by
    have hi : i < got.len := by rw [G2.len]; exact (List.getElem?_eq_some_iff.1 hxi).1
    simp only [idxL, h1] at p1
    rw [if_pos (by omega), Int.toNat_natCast] at p1
    exact (Option.some.inj p1).symm
   subst this
   exact sldL_at h3 (h4 2 (.slice x.2.2.a x.2.2.len x.2.2.cap) rfl)
  refine Gx.Wp.jn fun j21 h21 => Gx.Wp.bnd (sldI_at g2 rfl) (Gx.Wp.bnd p1 (Gx.Wp.bnd (pI 0 .i64 x.1 rfl) (Gx.Wp.ifn (by rw [v1, ← eans, s1]; simp) ?_)))
  refine Gx.Wp.bnd (ldS_at g2 rfl) (Gx.Wp.bnd p1 (Gx.Wp.bnd (pS 1 x.2.1 rfl) (Gx.Wp.ifn (by rw [v2, ← eans, s2]; simp [ba_beq]) ?_)))
  refine Gx.Wp.bnd (sldL_at g2 rfl) (Gx.Wp.bnd p1 (Gx.Wp.bnd pL ?_))
  have Rn : Row encS H2 ⟨x.2.2.a, x.2.2.len, x.2.2.cap⟩ v.2.2 := Row.chgN s3 c02 fun hne b hb => gs i x v hxi hvi hne b hb
  have nm := ansR_names (ts := (ansRL (qs.take i) ts0).1) (m := m0 + i) (fun t ht => by
   obtain ⟨j, hj⟩ := List.getElem?_of_mem ht
   exact (T.st j t hj).2.l) q
  have Aa2 : Row encS H2 ⟨a.1.2.2.a, a.1.2.2.len, a.1.2.2.cap⟩ v.2.2 := by rw [eans]; exact Row.keeps Aa.row k2
  refine Gx.Wp.bnd (sameS_spec D Aa2 Rn (by rw [eans]; omega) (by rw [eans]; omega)) ?_
  subst h21
  refine Gx.Wp.ifn (fun z => by cases z) ?_
  rw [Gx.w1 (by omega)]
  have e4 : qs.take (i + 1) = qs.take i ++ [q] := jobAt_next hqi
  refine ih (i + 1) H2 (by omega) ?_ (fun y => ?_) c02
  ·rw [e4, ansRL_snoc]
   exact (Ta.keeps k2)
  ·rw [e4, ansRL_snoc]
   exact (TSet_ans _ q y).trans (hS y)
end
theorem notT {h : AHeap} {r : Slc} {m : Nat} {ts : List Tb} (T : Rts h r m ts) {s : Slc} {xs : List Rp} (R : RowW 3 encP h s xs) (hx : xs ≠ []) {a : Addr} (ha : s.a = some a) : ¬ TSet ts a.block := by
 rintro ⟨t, ht, z⟩
 obtain ⟨x, l, rfl⟩ := List.exists_cons_of_ne_nil hx
 obtain ⟨i, hi⟩ := List.getElem?_of_mem ht
 obtain ⟨_, l', hb, _⟩ := (T.st i t hi).1.blk
 obtain ⟨a', c, e, r, fz, h1, h2, h3, h4⟩ := R.at' 0 x rfl
 rw [ha] at h1; cases h1
 rw [z, hb] at h3; cases h3
 have := h4 1 (.string x.2.1) rfl
 match a.off + 0 * 3 + 1, this with
 | 0, z => cases z
 | 1, z => cases z
 | 2, z => cases z
 | 3, z => cases z
 | 4, z => cases z
theorem notTS {h : AHeap} {r : Slc} {m : Nat} {ts : List Tb} (T : Rts h r m ts) {s : Slc} {xs : List ByteArray} (R : Row encS h s xs) (hx : xs ≠ []) {a : Addr} (ha : s.a = some a) : ¬ TSet ts a.block := by
 rintro ⟨t, ht, z⟩
 obtain ⟨x, l, rfl⟩ := List.exists_cons_of_ne_nil hx
 obtain ⟨i, hi⟩ := List.getElem?_of_mem ht
 obtain ⟨_, l', hb, _⟩ := (T.st i t hi).1.blk
 obtain ⟨a', c, e, r, fz, h1, h2, h3, h4⟩ := R.2 0 x rfl
 rw [ha] at h1; cases h1
 rw [z, hb] at h3; cases h3
 match a.off + 0, h4 with
 | 0, z => cases z
 | 1, z => cases z
 | 2, z => cases z
 | 3, z => cases z
 | 4, z => cases z
theorem answered_spec {k : Nat} (D : CallF) (hk : 200000 < k) {h : AHeap} {r sl got : Slc} {qs : List Rq} {ts : List Tb} {ss : List Sb} {xs : List Rp} {ys : List Ry} {m : Nat} (T : Rts h r m ts) (B : Bth ss ts) (R : RowW 4 encQ h sl qs) (ra : qs ≠ [] → ∀ a, sl.a = some a → ¬ TSet ts a.block) (G : RowW 3 encP h got xs) (S : Say h xs ys) (hys : ys = (ansRL qs ts).2) (hm : m + qs.length ≤ 1000) :
  Gx.Wp (law08_answered k D r sl got h) fun z => z.1 = true ∧ Rts z.2 r (m + qs.length) (ansRL qs ts).1 ∧ (∀ y, TSet (ansRL qs ts).1 y ↔ TSet ts y) ∧ Chg (TSet ts) h z.2 := by
 simp only [law08_answered]
 have l1 : got.len = qs.length := by rw [G.len, S.1, hys, ansRL_len]
 refine Gx.Wp.ifn (by rw [l1, R.len]; simp) (Gx.Wp.jn fun j hj => ?_)
 unfold law08_answered_l0
 obtain ⟨bot, eb⟩ := iterK_of (fun _ _ _ _ _ => none) (law08_answered_l0b k D j) (show qs.length + 1 ≤ k by omega)
 rw [eb]
 subst hj
 exact answered_l0 hk bot R ra G (fun hx a ha => notT T G hx ha) S (fun i z v hz hv hne a ha => notTS T (S.2 i z v hz hv).2.2 hne ha) B hys (m0 := m) hm (fun hh T' hS c => Gx.Wp.of ⟨rfl, T', hS, c⟩) qs.length 0 h (by simp) T (fun y => Iff.rfl) (Chg.refl _ _)
end Gs
namespace Gs
open Go Gx
theorem JobP.told {L : Nat → CallF} {N jb : Nat} {z : Rz} {W : AHeap → Prop} {st : Nat} {O : Nat → Prop} {h : AHeap} (J : JobP L N jb (.fin z W) st O h) : W h := by
 obtain ⟨ib, o, j, i, f⟩ := J.io
 exact i.1 h (Agr.refl _ _)
theorem asks_ok {k : Nat} (hk : 10000000 ≤ k) {h : AHeap} {sl : Slc} {qs : List Rq} (R : RowW 4 encQ h sl qs) (hn : ∀ q ∈ qs, NameOk k q) (hl : qs.length < k) (hl2 : qs.length ≤ 9223372036854775807) :
  Gx.Wp (law08_PortAsks k (DD k) sl h) fun z => z.1 = true := by
 simp only [law08_PortAsks, DD]
 refine Gx.Wp.jn fun j4 h4 => Gx.Wp.call (small_spec (lvl k 60) R hl hl2) fun v hv => ?_
 obtain ⟨e1, e2⟩ := hv
 obtain ⟨b, h'⟩ := v
 dsimp only at e1 e2 ⊢
 subst e1
 have out : Gx.Wp (j4 sl true h') fun z => z.1 = true := by
  subst h4
  exact Gx.Wp.ifp rfl (Gx.Wp.call (works8P (by omega) (by omega)) fun w hw => Gx.Wp.of hw.1)
 cases b with
 | false => exact Gx.Wp.ifp rfl out
 | true =>
 have len : sl.len = qs.length := R.len
 refine Gx.Wp.ifn (fun z => by cases z) ?_
 by_cases c20 : 20 < qs.length
 ·exact Gx.Wp.ifp (by rw [len]; simp; omega) out
 refine Gx.Wp.ifn (by rw [len]; simp; omega) (Gx.Wp.call (works8P (by omega) (by omega)) fun w hw => ?_)
 obtain ⟨w1, kw⟩ := hw
 rw [w1]
 subst h4
 clear out
 refine Gx.Wp.ifn (fun z => by cases z) (Gx.Wp.call (both_spec (lvl k 60) (by omega)) fun r6 q6 => ?_)
 obtain ⟨ss, ts, M, k6, l6⟩ := q6
 have nw := kw.nx
 have n6 := k6.nx
 refine Gx.Wp.new fun H7 k7 n7 g7 => ?_
 obtain ⟨s8, h8, a8, a8', A8, k8⟩ := copyQ ((R.keeps kw).keeps k6) (by omega) k7 n7
 refine Gx.Wp.bnd a8 (Gx.Wp.bnd a8' ?_)
 dsimp only
 have m8 := k8.nx
 refine Gx.Wp.new fun H10 k10 n10 g10 => ?_
 have A10 : AccV 4 encQ 32 0 H10 s8 qs := ⟨(A8.keeps k10).st, fun a ha => ⟨((A8.keeps k10).lt a ha).1, Nat.zero_le _⟩⟩
 have lo8 : ∀ a, s8.a = some a → r6.2.next ≤ a.block ∧ a.block < h8.next := fun a ha => ⟨(A8.lt a ha).2, (A8.lt a ha).1⟩
 refine Gx.Wp.call (Asks_P (n := 60) (by decide) (by omega) (show H10.get h8.next = some (.cells (akZ s8) 82 true 0) from g10) (by omega) A10 (fun a ha => by have := lo8 a ha; omega)) fun r11 q11 => ?_
 obtain ⟨jb, O, ej, c11, J, far, hj⟩ := q11
 have m11 := c11.nx
 have jl := J.lj
 rw [ej]
 refine Gx.Wp.ifn (fun z => by cases z) ?_
 have ofar : ∀ y, O y → r6.2.next ≤ y := fun y o => by
  rcases far y o with (z | ⟨a, ha, z⟩) | z
  ·omega
  ·have := lo8 a ha; omega
  ·omega
 have c6 : Chg (fun y => r6.2.next ≤ y) r6.2 r11.2 := (Chg.keeps (k8.trans k10)).trans (c11.wk fun y _ z => by
  rcases z with z | ⟨a, ha, z⟩
  ·omega
  ·have := lo8 a ha; omega)
 have T11 : Sts r11.2 r6.1.1 0 ss := (M.sts (by decide)).chg c6 (fun y hy z => by have := M.sset hy; omega) fun a ha z => by have := M.ls ha; omega
 obtain ⟨ys1, e1⟩ : ∃ ys1, ys1 = (ansL qs ss).2 := ⟨_, rfl⟩
 obtain ⟨ys2, e2⟩ : ∃ ys2, ys2 = (ansL qs (ansL qs ss).1).2 := ⟨_, rfl⟩
 have RR' : RunR k 100 (asksP h8.next H10.next qs) ss (.fin (asksZ ys2.length) (Told h8.next H10.next ys1 ys2)) (ansL qs (ansL qs ss).1).1 (0 + qs.length + qs.length) := by
  have in1 : RunR k (100 - 2 * qs.length + qs.length) (asks2 h8.next H10.next qs ys1) (ansL qs ss).1 (.fin (asksZ ys2.length) (Told h8.next H10.next ys1 ys2)) (ansL qs (ansL qs ss).1).1 (0 + qs.length) := by
   refine run_all hn ?_
   rw [List.nil_append, ← e2]
   exact RunR.over
  have in2 := run_all (k := k) (K := asks2 h8.next H10.next qs) (acc := []) (ss := ss) (most := 100 - 2 * qs.length + qs.length) hn (by rw [List.nil_append, ← e1]; exact in1)
  rw [show 100 - 2 * qs.length + qs.length + qs.length = 100 by omega] at in2
  exact in2
 refine Gx.Wp.call (Run_P (L := lvl k) (N := 6) (n := 60) (by decide) RR' J T11 (fun y hy => ?_) (fun a ha => ?_) (by omega) (by omega) (by omega)) fun r12 q12 => ?_
 ·have := M.sset hy
  exact ⟨by omega, fun z => z.elim (fun z => by have := ofar y z; omega) fun z => by omega⟩
 ·have := M.ls ha
  exact ⟨by omega, fun z => z.elim (fun z => by have := ofar _ z; omega) fun z => by omega⟩
 obtain ⟨O', v, J12, sub, far2, sset, T12, c12⟩ := q12
 have n12 := c12.nx
 rw [v]
 have c06 : Chg (fun y => r6.2.next ≤ y ∨ SSet ss y) r6.2 r12.2 := (c6.wk fun y _ z => .inl z).trans (c12.wk fun y _ z => z.elim .inr fun z => .inl (ofar y z))
 have D12 : Rts r12.2 r6.1.2 0 ts := M.rts' c06 (fun y hy z => by
  have := M.tset hy
  exact z.elim (fun z => by omega) fun z => M.parts z hy) fun a ha z => by
  have q := M.lr ha
  exact z.elim (fun z => by omega) q.2.2.1
 have ly2 : ys2.length = qs.length := by rw [e2, ansL_len]
 refine Gx.Wp.jn fun j18 h18 => ?_
 refine Gx.Wp.ifn (by rw [len, w64 _ (by omega)]; simp; omega) (Gx.Wp.ifn (fun z => by cases z) ?_)
 refine Gx.Wp.bnd (Steps_P _ J12) (Gx.Wp.ifn (by simp) ?_)
 have r2 : (Prg.fin (asksZ ys2.length) (Told h8.next H10.next ys1 ys2)).res = asksZ ys2.length := rfl
 refine Gx.Wp.call (Result_P _ J12 (by rw [r2]; exact Nat.zero_le _) (by rw [r2]; show 1 ≤ _; decide)) fun r26 q26 => ?_
 obtain ⟨k26, o26⟩ := q26
 refine Gx.Wp.ifn (by rw [o26.2.2.1, r2, len, ← ly2]; simp [asksZ]) ?_
 have J26 := J12.chg k26 fun _ _ f => f
 refine Gx.Wp.call (Result_P _ J26 (by rw [r2]; exact Nat.zero_le _) (by rw [r2]; show 1 ≤ _; decide)) fun r27 q27 => ?_
 obtain ⟨k27, o27⟩ := q27
 refine Gx.Wp.new fun H28 k28 n28 g28 => ?_
 have R28 : Row encS H28 ⟨some ⟨r27.2.next, 0, some 0⟩, 1, 1⟩ [done] := row_lit [done] (e := 9) (r := true) (fz := 0) g28 (by omega)
 refine Gx.Wp.bnd (sameS_spec _ (Row.keeps o27.2.2.2.2.1 k28) R28 (by show 1 < k; omega) (by show 1 < _; decide)) ?_
 subst h18
 have kE : Keeps r12.2 H28 := (k26.trans k27).trans k28
 have JE := J12.chg kE fun _ _ f => f
 obtain ⟨l, one, both, xs1, xs2, gab, Ro, So, Rb, Sb⟩ := JE.told
 have nE := kE.nx
 refine Gx.Wp.ifn (fun z => by cases z) (Gx.Wp.bnd rfl (Gx.Wp.bnd (sldL_at gab rfl) ?_))
 have hkR : Keeps h' r6.2 := kw.trans k6
 have RE : RowW 4 encQ H28 sl qs := by
  have R6 := R.keeps hkR
  refine ⟨R.len, fun i x hx => ?_⟩
  obtain ⟨a, c, e, r, fz, h1, h2, h3, h4⟩ := R6.at' i x hx
  obtain ⟨a', _, _, _, _, h1', h2', _⟩ := R.at' i x hx
  rw [h1] at h1'; cases h1'
  exact ⟨a, c, e, r, fz, h1, by omega, kE.got (by omega) (c06.got h2 (fun z => z.elim (fun z => by omega) fun z => by have := M.sset z; omega) h3), h4⟩
 have ra : qs ≠ [] → ∀ a, sl.a = some a → ¬ TSet ts a.block := fun ne a ha z => by
  obtain ⟨x, t, rfl⟩ := List.exists_cons_of_ne_nil ne
  obtain ⟨a', _, _, _, _, h1', h2', _⟩ := R.at' 0 x rfl
  rw [ha] at h1'; cases h1'
  have := M.tset z
  omega
 have an1 := both_all (qs := qs) M.bth
 have an2 := both_all (qs := qs) an1.2
 refine Gx.Wp.call (answered_spec (lvl k 60) (by omega) (D12.keeps kE) M.bth RE ra Ro So (by rw [e1, an1.1]) (by omega)) fun r21 q21 => ?_
 obtain ⟨v21, D21, tS, c21⟩ := q21
 refine Gx.Wp.ifp v21 ?_
 have DE := D12.keeps kE
 have gab2 := c21.got (by dsimp only; omega) (fun z => by have := M.tset z; omega) gab
 refine Gx.Wp.bnd rfl (Gx.Wp.bnd (sldL_at gab2 rfl) ?_)
 have Rb2 := RowW.chgN Rb c21 fun hx a ha => notT DE Rb hx ha
 have Sb2 : Say r21.2 xs2 ys2 := ⟨Sb.1, fun i z v hz hv => ⟨(Sb.2 i z v hz hv).1, (Sb.2 i z v hz hv).2.1, Row.chgN (Sb.2 i z v hz hv).2.2 c21 fun hx a ha => notTS DE (Sb.2 i z v hz hv).2.2 hx ha⟩⟩
 refine Gx.Wp.call (answered_spec (lvl k 60) (by omega) D21 an1.2 (RowW.chgN RE c21 fun ne a ha => ra ne a ha) (fun ne a ha z => ra ne a ha ((tS _).1 z)) Rb2 Sb2 (by rw [e2, an2.1]) (by omega)) fun r24 q24 => Gx.Wp.of q24.1
theorem asks_rep {k : Nat} {l : List reqT.V} (hk : needR l ≤ k) {h : AHeap} {sl : Slc} (R : Gx.Rep h (.list reqT) l [.slice sl.a sl.len sl.cap]) (N : l.length ≤ 9223372036854775807) : ∃ h', law08_PortAsks k (DD k) sl h = some (true, h') := by
 obtain ⟨a, b, c, d, e⟩ := reqs_rep hk R N
 obtain ⟨⟨r, h'⟩, e, q⟩ := asks_ok b a d c e
 obtain rfl : r = true := q
 exact ⟨h', e⟩
end Gs
