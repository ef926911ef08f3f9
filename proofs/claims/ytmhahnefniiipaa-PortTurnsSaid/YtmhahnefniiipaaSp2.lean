import Derived.Test.YtmhahnefniiipaaSp1
namespace Gs
open Go Gx
structure LR (h : AHeap) (kb : Nat) (l : Slc) (ac : Nat) (z : Rz) : Prop where
 blk : ∃ s t : Slc, h.get kb = some (.cells [.slice l.a l.len l.cap, .int .i64 ac, .int .i64 z.code, .string ⟨#[]⟩, .int .i64 z.n, .slice s.a s.len s.cap, .slice t.a t.len t.cap, .slice none 0 0, .slice none 0 0] 62 true 0) ∧ AccV 1 encS1 9 (kb + 1) h s z.ids ∧ AccV 1 encS1 9 (kb + 1) h t z.texts
 lt : kb < h.next
theorem LR.keeps {h h' : AHeap} {kb : Nat} {l : Slc} {ac : Nat} {z : Rz} (L : LR h kb l ac z) (k : Keeps h h') : LR h' kb l ac z := by
 obtain ⟨s, t, hb, A, B⟩ := L.blk
 exact ⟨⟨s, t, (k.oth _ L.lt fun f => f).trans hb, A.keeps k, B.keeps k⟩, Nat.lt_of_lt_of_le L.lt k.nx⟩
theorem LR.below {S : Nat → Prop} {h h' : AHeap} {kb : Nat} {l : Slc} {ac : Nat} {z : Rz} (L : LR h kb l ac z) (k : Chg S h h') (hS : ∀ y, S y → y < kb) : LR h' kb l ac z := by
 obtain ⟨s, t, hb, A, B⟩ := L.blk
 have nS : ∀ {y}, kb ≤ y → ¬ S y := fun h z => by have := hS _ z; omega
 exact ⟨⟨s, t, (k.oth _ L.lt (nS (Nat.le_refl _))).trans hb, A.chg k fun a ha => nS (by have := (A.lt a ha).2; omega), B.chg k fun a ha => nS (by have := (B.lt a ha).2; omega)⟩, Nat.lt_of_lt_of_le L.lt k.nx⟩
theorem copy_app {h15 : AHeap} {base b0 : Nat} {s : Slc} {xs : List ByteArray} (A : AccV 1 encS1 9 base h15 s xs) (hb : base ≤ b0) (hl : b0 < h15.next) (hx : xs.length ≤ 1099511627776) :
  ∃ s' h', appendA 1 16 9 h15 (⟨some ⟨b0, 0, some 0⟩, 0, 0⟩ : Slc) (xs.map encS) s.len = some (s', h') ∧ AccV 1 encS1 9 base h' s' xs ∧ Chg (· = b0) h15 h' ∧ (∀ a, s'.a = some a → h15.next ≤ a.block ∨ a.block = b0) ∧ Gx.rdS 1 s h15 = some (xs.map encS) := by
 have hn : s.len = xs.length := (A.row encS1_len).len
 obtain ⟨s', h', a, A', c, d⟩ := (empty0 (w := 1) (enc := encS1) (e := 9) (h := h15) hb hl).app encS1_len encS1_one xs (bytes := 16) (by decide) (by simp; omega) (by omega)
 rw [flatS] at a
 rw [List.nil_append] at A'
 refine ⟨s', h', by rw [hn]; exact a, A', c.wk fun y _ ⟨a, ha, q⟩ => by cases ha; exact q, fun a ha => (d a ha).imp id fun z => by cases z; rfl, ?_⟩
 rw [← flatS]; exact A.rdS encS1_len
theorem LGive_spec {k : Nat} (D : CallF) {h : AHeap} {kb : Nat} {l : Slc} {ac : Nat} {z : Rz} (L : LR h kb l ac z) {c : Int} {d : ByteArray} {sl : Slc} {names : List ByteArray} (R : Row encS h sl names) (hs : ∀ a, sl.a = some a → a.block ≠ kb) (h1 : ac ≤ 100000) (h2 : z.n ≤ 100000) (h3 : z.ids.length + names.length ≤ 1099511627776) (h4 : z.texts.length ≤ 100000) :
  Gx.Wp (ref08_List_Give k D (some ⟨kb, 0, none⟩) (c, d, sl) h) fun w => Chg (· = kb) h w.2 ∧ LR w.2 kb l (ac + 1) (z.add (c, d, names)) := by
 obtain ⟨s, t, hb, As, At⟩ := L.blk
 have lt := L.lt
 simp only [ref08_List_Give]
 obtain ⟨H1, e1⟩ : ∃ H1, H1 = h.new (.cells [.int .i64 c, .string d, .slice sl.a sl.len sl.cap] 29 true 0) := ⟨_, rfl⟩
 rw [← e1]
 have k1 : Keeps h H1 := e1 ▸ Keeps.new h _
 have n1 : H1.next = h.next + 1 := by rw [e1]; rfl
 have g1 : H1.get h.next = some (.cells [.int .i64 c, .string d, .slice sl.a sl.len sl.cap] 29 true 0) := by rw [e1]; simp
 have hb1 := (k1.oth _ lt fun f => f).trans hb
 refine Gx.Wp.bnd rfl (Gx.Wp.bnd (sldI_at hb1 rfl) (Gx.Wp.bnd rfl ?_))
 rw [Gx.w1 (by omega)]
 refine Gx.Wp.bnd (st1_sb hb1 (by show 0 + 1 < 9; omega) rfl) ?_
 have tail : ∀ (H : AHeap) (cd : Int) (nn : Nat), Chg (· = kb) h H → H.get h.next = some (.cells [.int .i64 c, .string d, .slice sl.a sl.len sl.cap] 29 true 0) → H.get kb = some (.cells [.slice l.a l.len l.cap, .int .i64 ((ac + 1 : Nat) : Int), .int .i64 cd, .string ⟨#[]⟩, .int .i64 nn, .slice s.a s.len s.cap, .slice t.a t.len t.cap, .slice none 0 0, .slice none 0 0] 62 true 0) → h.next < H.next → (z.add (c, d, names)).code = cd → (z.add (c, d, names)).n = nn →
   Gx.Wp (
   let h14 := AHeap.resv H 2
   let h15 := AHeap.set h14 (H.next + 0) (.cells [] 9 true 0)
   (some (⟨kb, 0, none⟩ : Addr)).bind fun p16 =>
   (ldL (⟨p16.block, p16.off + 2 + 4, none⟩ : Addr) h15).bind fun x17 =>
   guardP (SameW [h14] (fun H19 => (ldL (⟨p16.block, p16.off + 2 + 4, none⟩ : Addr) H19).bind fun y18 => some (.slice y18.a y18.len y18.cap)) (.slice x17.a x17.len x17.cap)) (
   (Gx.rdS 1 x17 h15).bind fun n21 =>
   (appendA 1 16 9 h15 (⟨(some ⟨(H.next + 0), 0, some 0⟩), 0, 0⟩ : Slc) n21 x17.len).bind fun r20 =>
   (some (⟨h.next, 0, none⟩ : Addr)).bind fun p22 =>
   (Gx.ldS (⟨p22.block, p22.off + 1, none⟩ : Addr) r20.2).bind fun x23 =>
   guardP (SameW [h15, h14] (fun H25 => (Gx.ldS (⟨p22.block, p22.off + 1, none⟩ : Addr) H25).bind fun y24 => some (.string y24)) (.string x23)) (
   let h26 := AHeap.set r20.2 (H.next + 1) (.cells [.string x23] 9 true 0)
   (Gx.rdS 1 (⟨(some ⟨(H.next + 1), 0, some 0⟩), 1, 1⟩ : Slc) h26).bind fun n28 =>
   (appendA 1 16 9 h26 r20.1 n28 1).bind fun r27 =>
   (some (⟨kb, 0, none⟩ : Addr)).bind fun p29 =>
   (Gx.st1 (⟨p29.block, p29.off + 2 + 4, none⟩ : Addr) (.slice r27.1.a r27.1.len r27.1.cap) r27.2).bind fun h30 =>
   let h31 := AHeap.new h30 (.cells [] 9 true 0)
   (some (⟨kb, 0, none⟩ : Addr)).bind fun p32 =>
   (ldL (⟨p32.block, p32.off + 2 + 3, none⟩ : Addr) h31).bind fun x33 =>
   guardP (SameW [h30] (fun H35 => (ldL (⟨p32.block, p32.off + 2 + 3, none⟩ : Addr) H35).bind fun y34 => some (.slice y34.a y34.len y34.cap)) (.slice x33.a x33.len x33.cap)) (
   (Gx.rdS 1 x33 h31).bind fun n37 =>
   (appendA 1 16 9 h31 (⟨(some ⟨h30.next, 0, some 0⟩), 0, 0⟩ : Slc) n37 x33.len).bind fun r36 =>
   (some (⟨h.next, 0, none⟩ : Addr)).bind fun p38 =>
   (ldL (⟨p38.block, p38.off + 2, none⟩ : Addr) r36.2).bind fun x39 =>
   guardP (SameW [h31, h30] (fun H41 => (ldL (⟨p38.block, p38.off + 2, none⟩ : Addr) H41).bind fun y40 => some (.slice y40.a y40.len y40.cap)) (.slice x39.a x39.len x39.cap)) (
   (Gx.rdS 1 x39 r36.2).bind fun n43 =>
   (appendA 1 16 9 r36.2 r36.1 n43 x39.len).bind fun r42 =>
   (some (⟨kb, 0, none⟩ : Addr)).bind fun p44 =>
   (Gx.st1 (⟨p44.block, p44.off + 2 + 3, none⟩ : Addr) (.slice r42.1.a r42.1.len r42.1.cap) r42.2).bind fun h45 =>
   some ((), h45)))))) fun w => Chg (· = kb) h w.2 ∧ LR w.2 kb l (ac + 1) (z.add (c, d, names)) := by
  intro H cd nn cH gH hbH nH ec en
  have hne : h.next ≠ kb := by omega
  obtain ⟨H14, e14⟩ : ∃ H14, H14 = AHeap.resv H 2 := ⟨_, rfl⟩
  obtain ⟨H15, e15⟩ : ∃ H15, H15 = AHeap.set H14 (H.next + 0) (.cells [] 9 true 0) := ⟨_, rfl⟩
  dsimp only
  rw [← e14, ← e15]
  have k14 : Keeps H H14 := e14 ▸ ⟨by show H.next ≤ H.next + 2; omega, fun x hx _ => rfl⟩
  have n14 : H14.next = H.next + 2 := by rw [e14]; rfl
  have k15 : Keeps H H15 := Chg.beh (T := (· = H.next + 0)) k14 (e15 ▸ Chg.set (.inr rfl)) fun y hy q => by omega
  have n15 : H15.next = H.next + 2 := by rw [e15]; exact n14
  have b14 := (k14.oth _ (by omega) fun f => f).trans hbH
  have b15 := (k15.oth _ (by omega) fun f => f).trans hbH
  have x14 := (k14.oth _ (by omega) fun f => f).trans gH
  have x15 := (k15.oth _ (by omega) fun f => f).trans gH
  have AsH := As.chg cH fun a ha q => by have := (As.lt a ha).2; omega
  have AtH := At.chg cH fun a ha q => by have := (At.lt a ha).2; omega
  refine Gx.Wp.bnd rfl (Gx.Wp.bnd (sldL_at b15 rfl) (Gx.Wp.gp (ssw1 (bnd (sldL_at b14 rfl) rfl)) ?_))
  obtain ⟨s20, h20, a20, A20, c20, d20, rd20⟩ := copy_app (b0 := H.next + 0) (s := ⟨t.a, t.len, t.cap⟩) (AtH.keeps k15) (by omega) (by omega) (by omega)
  refine Gx.Wp.bnd rd20 (Gx.Wp.bnd a20 ?_)
  have n20 := c20.nx
  have x20 := (c20.oth _ (by omega) (by omega)).trans x15
  refine Gx.Wp.bnd rfl (Gx.Wp.bnd (ldS_at x20 rfl) (Gx.Wp.gp (ssw2 (bnd (ldS_at x15 rfl) rfl) (bnd (ldS_at x14 rfl) rfl)) ?_))
  obtain ⟨H26, e26⟩ : ∃ H26, H26 = AHeap.set h20 (H.next + 1) (.cells [.string d] 9 true 0) := ⟨_, rfl⟩
  rw [← e26]
  have c26 : Chg (· = H.next + 1) h20 H26 := e26 ▸ Chg.set (.inr rfl)
  have n26 : H26.next = h20.next := by rw [e26]; rfl
  have rd26 : Gx.rdS 1 (⟨(some ⟨(H.next + 1), 0, some 0⟩), 1, 1⟩ : Slc) H26 = some [encS d] := by
   have : H26.get (H.next + 1) = some (.cells [encS d] 9 true 0) := by rw [e26]; simp; rfl
   exact rdL_all this
  refine Gx.Wp.bnd rd26 ?_
  have A26 := A20.chg c26 fun a ha q => by rcases d20 a ha with w | w <;> omega
  obtain ⟨s27, h27, a27, A27, c27, d27⟩ := A26.app encS1_len encS1_one [d] (bytes := 16) (by decide) (by simp; omega) (by omega)
  have e27 : appendA 1 16 9 H26 s20 [encS d] 1 = some (s27, h27) := a27
  refine Gx.Wp.bnd e27 (Gx.Wp.bnd rfl ?_)
  have n27 := c27.nx
  have of27 : ∀ y, ofS s20 y → H15.next ≤ y ∨ y = H.next := fun y ⟨a, ha, q⟩ => by rcases d20 a ha with w | w <;> omega
  have kB : Keeps H h27 := Chg.beh (Chg.beh (Chg.beh k15 c20 fun y hy q => by omega) c26 fun y hy q => by omega) c27 fun y hy q => by have := of27 y q; omega
  have b27 := (kB.oth _ (by omega) fun f => f).trans hbH
  refine Gx.Wp.bnd (st1_sb b27 (by show 0 + 2 + 4 < 9; omega) rfl) ?_
  obtain ⟨H30, e30⟩ : ∃ H30, H30 = h27.set kb (.cells [.slice l.a l.len l.cap, .int .i64 ((ac + 1 : Nat) : Int), .int .i64 cd, .string ⟨#[]⟩, .int .i64 nn, .slice s.a s.len s.cap, .slice s27.a s27.len s27.cap, .slice none 0 0, .slice none 0 0] 62 true 0) := ⟨_, rfl⟩
  have e30' : h27.set kb (.cells ([Value.slice l.a l.len l.cap, .int .i64 ((ac + 1 : Nat) : Int), .int .i64 cd, .string ⟨#[]⟩, .int .i64 nn, .slice s.a s.len s.cap, .slice t.a t.len t.cap, .slice none 0 0, .slice none 0 0].set (0 + 2 + 4) (.slice s27.a s27.len s27.cap)) 62 true 0) = H30 := e30.symm
  dsimp only
  rw [e30']
  have c30 : Chg (· = kb) h27 H30 := e30 ▸ Chg.set (.inr rfl)
  have n30 : H30.next = h27.next := by rw [e30]; rfl
  have b30 : H30.get kb = some (.cells [.slice l.a l.len l.cap, .int .i64 ((ac + 1 : Nat) : Int), .int .i64 cd, .string ⟨#[]⟩, .int .i64 nn, .slice s.a s.len s.cap, .slice s27.a s27.len s27.cap, .slice none 0 0, .slice none 0 0] 62 true 0) := by rw [e30]; simp
  have x30 := (c30.oth _ (by omega) hne).trans ((kB.oth _ (by omega) fun f => f).trans gH)
  obtain ⟨H31, e31⟩ : ∃ H31, H31 = H30.new (.cells [] 9 true 0) := ⟨_, rfl⟩
  rw [← e31]
  have k31 : Keeps H30 H31 := e31 ▸ Keeps.new H30 _
  have n31 : H31.next = H30.next + 1 := by rw [e31]; rfl
  have b31 := (k31.oth _ (by omega) fun f => f).trans b30
  have x31 := (k31.oth _ (by omega) fun f => f).trans x30
  have As31 : AccV 1 encS1 9 (kb + 1) H31 s z.ids := ((AsH.keeps kB).chg c30 fun a ha q => by have := (As.lt a ha).2; omega).keeps k31
  have At31 : AccV 1 encS1 9 (kb + 1) H31 s27 (z.texts ++ [d]) := (A27.chg c30 fun a ha q => by have := (A27.lt a ha).2; omega).keeps k31
  refine Gx.Wp.bnd rfl (Gx.Wp.bnd (sldL_at b31 rfl) (Gx.Wp.gp (ssw1 (bnd (sldL_at b30 rfl) rfl)) ?_))
  obtain ⟨s36, h36, a36, A36, c36, d36, rd36⟩ := copy_app (b0 := H30.next) (s := ⟨s.a, s.len, s.cap⟩) As31 (by omega) (by omega) (by omega)
  refine Gx.Wp.bnd rd36 (Gx.Wp.bnd a36 ?_)
  have n36 := c36.nx
  have x36 := (c36.oth _ (by omega) (by omega)).trans x31
  refine Gx.Wp.bnd rfl (Gx.Wp.bnd (sldL_at x36 rfl) (Gx.Wp.gp (ssw2 (bnd (sldL_at x31 rfl) rfl) (bnd (sldL_at x30 rfl) rfl)) ?_))
  have kC : Chg (· = kb) h h36 := Chg.beh (T := (· = H30.next)) (cH.trans ((Chg.keeps kB).trans (c30.trans (Chg.keeps k31)))) c36 fun y hy q => by omega
  have R36 : Row encS h36 ⟨sl.a, sl.len, sl.cap⟩ names := Row.chg R kC hs
  refine Gx.Wp.bnd R36.rdS ?_
  rw [show (⟨sl.a, sl.len, sl.cap⟩ : Slc).len = names.length from R.1]
  obtain ⟨s42, h42, a42, A42, c42, d42⟩ := A36.app encS1_len encS1_one names (bytes := 16) (by decide) (by omega) (by omega)
  rw [flatS] at a42
  refine Gx.Wp.bnd a42 (Gx.Wp.bnd rfl ?_)
  have of42 : ∀ y, ofS s36 y → H31.next ≤ y ∨ y = H30.next := fun y ⟨a, ha, q⟩ => by rcases d36 a ha with w | w <;> omega
  have b36 := (c36.oth _ (by omega) (by omega)).trans b31
  have b42 := (c42.oth _ (by omega) (fun q => by have := of42 _ q; omega)).trans b36
  have n42 := c42.nx
  refine Gx.Wp.bnd (st1_sb b42 (by show 0 + 2 + 3 < 9; omega) rfl) (Gx.Wp.of ⟨?_, ⟨s42, s27, ?_, ?_, ?_⟩, ?_⟩)
  ·exact (Chg.beh kC c42 fun y hy q => by have := of42 y q; omega).trans (Chg.set (S := (· = kb)) (.inr rfl))
  ·rw [ec, en, sset_get]; rfl
  ·exact A42.chg (S := (· = kb)) (Chg.set (.inr rfl)) fun a ha q => by have := (A42.lt a ha).2; omega
  ·have A1 := At31.chg c36 fun a ha q => by have h1 := (A27.lt a ha).1; omega
   have A2 := A1.chg c42 fun a ha q => by have h1 := (A27.lt a ha).1; have := of42 _ q; omega
   exact A2.chg (S := (· = kb)) (Chg.set (.inr rfl)) fun a ha q => by have := (A2.lt a ha).2; omega
  ·show kb < h42.next; omega
 have hne : h.next ≠ kb := by omega
 obtain ⟨H5, e5⟩ : ∃ H5, H5 = H1.set kb (.cells [.slice l.a l.len l.cap, .int .i64 ((ac + 1 : Nat) : Int), .int .i64 z.code, .string ⟨#[]⟩, .int .i64 z.n, .slice s.a s.len s.cap, .slice t.a t.len t.cap, .slice none 0 0, .slice none 0 0] 62 true 0) := ⟨_, rfl⟩
 have e5' : H1.set kb (.cells ([Value.slice l.a l.len l.cap, .int .i64 ac, .int .i64 z.code, .string ⟨#[]⟩, .int .i64 z.n, .slice s.a s.len s.cap, .slice t.a t.len t.cap, .slice none 0 0, .slice none 0 0].set (0 + 1) (.int .i64 ((ac + 1 : Nat) : Int))) 62 true 0) = H5 := e5.symm
 rw [e5']
 have c5 : Chg (· = kb) h H5 := (Chg.keeps k1).trans (e5 ▸ Chg.set (.inr rfl))
 have b5 : H5.get kb = some (.cells [.slice l.a l.len l.cap, .int .i64 ((ac + 1 : Nat) : Int), .int .i64 z.code, .string ⟨#[]⟩, .int .i64 z.n, .slice s.a s.len s.cap, .slice t.a t.len t.cap, .slice none 0 0, .slice none 0 0] 62 true 0) := by rw [e5]; simp
 have g5 : H5.get h.next = some (.cells [.int .i64 c, .string d, .slice sl.a sl.len sl.cap] 29 true 0) := by rw [e5]; simp only [AHeap.get_set]; rw [if_neg hne]; exact g1
 have n5 : H5.next = h.next + 1 := by rw [e5]; exact n1
 refine Gx.Wp.jn fun j9 h9 => Gx.Wp.bnd (sldI_at g5 rfl) ?_
 by_cases c0 : c = 0
 ·refine Gx.Wp.ifp (by rw [c0]; rfl) (Gx.Wp.bnd rfl (Gx.Wp.bnd (sldI_at b5 rfl) (Gx.Wp.bnd rfl ?_)))
  rw [Gx.w1 (by omega)]
  refine Gx.Wp.bnd (st1_sb b5 (by show 0 + 2 + 2 < 9; omega) rfl) ?_
  subst h9
  refine Gx.Wp.jn fun j13 h13 => Gx.Wp.jn fun j50 h50 => Gx.Wp.bnd rfl ?_
  have g6 : ∀ B, (H5.set kb B).get h.next = some (.cells [.int .i64 c, .string d, .slice sl.a sl.len sl.cap] 29 true 0) := fun B => by simp only [AHeap.get_set]; rw [if_neg hne]; exact g5
  refine Gx.Wp.bnd (sldI_at (g6 _) rfl) (Gx.Wp.ifn (by rw [c0]; decide) ?_)
  subst h50
  refine Gx.Wp.ifn (fun q => by cases q) ?_
  subst h13
  refine tail _ z.code (z.n + 1) (c5.trans (Chg.set (.inr rfl))) (g6 _) (by rw [sset_get]; rfl) (by show h.next < H5.next; omega) ?_ ?_
  ·simp only [Rz.add]; rw [if_pos c0]
  ·simp only [Rz.add]; rw [if_pos c0]
 ·refine Gx.Wp.ifn (by simpa using c0) ?_
  subst h9
  refine Gx.Wp.jn fun j13 h13 => Gx.Wp.jn fun j50 h50 => Gx.Wp.bnd rfl (Gx.Wp.bnd (sldI_at g5 rfl) (Gx.Wp.ifp (by simpa using c0) (Gx.Wp.bnd rfl (Gx.Wp.bnd (sldI_at b5 rfl) ?_))))
  subst h50
  by_cases c1 : z.code = 0
  ·rw [c1]
   refine Gx.Wp.ifp rfl (Gx.Wp.bnd rfl (Gx.Wp.bnd (sldI_at g5 rfl) (Gx.Wp.bnd rfl (Gx.Wp.bnd (st1_sb b5 (by show 0 + 2 + 0 < 9; omega) rfl) ?_))))
   subst h13
   refine tail _ c z.n (c5.trans (Chg.set (.inr rfl))) (by simp only [AHeap.get_set]; rw [if_neg hne]; exact g5) (by rw [sset_get]; rfl) (by show h.next < H5.next; omega) ?_ ?_
   ·simp only [Rz.add]; rw [if_neg c0, if_pos c1]
   ·simp only [Rz.add]; rw [if_neg c0]
  ·refine Gx.Wp.ifn (by simpa using c1) ?_
   subst h13
   refine tail H5 z.code z.n c5 g5 b5 (by omega) ?_ ?_
   ·simp only [Rz.add]; rw [if_neg c0, if_neg c1]
   ·simp only [Rz.add]; rw [if_neg c0]
end Gs
namespace Gs
open Go Gx
theorem sameRes_spec {k : Nat} (D : CallF) {h : AHeap} {z : Rz} {a b : ResT} (A : ResOk h z a) (B : ResOk h z b) (h1 : z.ids.length < k) (h2 : z.texts.length < k) (h3 : z.ids.length ≤ 1099511627776) (h4 : z.texts.length ≤ 1099511627776) : Gx.Wp (law08_sameResult k D a b h) fun v => v.1 = true ∧ Keeps h v.2 := by
 obtain ⟨a1, a2, a3, a4, a5, a6, a7⟩ := A
 obtain ⟨b1, b2, b3, b4, b5, b6, b7⟩ := B
 simp only [law08_sameResult]
 obtain ⟨H1, e1⟩ : ∃ H1, H1 = h.new (.cells [.int .i64 a.1, .string a.2.1, .int .i64 a.2.2.1, .slice a.2.2.2.1.a a.2.2.2.1.len a.2.2.2.1.cap, .slice a.2.2.2.2.1.a a.2.2.2.2.1.len a.2.2.2.2.1.cap, .slice a.2.2.2.2.2.1.a a.2.2.2.2.2.1.len a.2.2.2.2.2.1.cap, .slice a.2.2.2.2.2.2.a a.2.2.2.2.2.2.len a.2.2.2.2.2.2.cap] 60 true 0) := ⟨_, rfl⟩
 rw [← e1]
 obtain ⟨H2, e2⟩ : ∃ H2, H2 = H1.new (.cells [.int .i64 b.1, .string b.2.1, .int .i64 b.2.2.1, .slice b.2.2.2.1.a b.2.2.2.1.len b.2.2.2.1.cap, .slice b.2.2.2.2.1.a b.2.2.2.2.1.len b.2.2.2.2.1.cap, .slice b.2.2.2.2.2.1.a b.2.2.2.2.2.1.len b.2.2.2.2.2.1.cap, .slice b.2.2.2.2.2.2.a b.2.2.2.2.2.2.len b.2.2.2.2.2.2.cap] 60 true 0) := ⟨_, rfl⟩
 rw [← e2]
 have k1 : Keeps h H1 := e1 ▸ Keeps.new h _
 have k2 : Keeps H1 H2 := e2 ▸ Keeps.new H1 _
 have n1 : H1.next = h.next + 1 := by rw [e1]; rfl
 have g1 : H2.get h.next = some (.cells [.int .i64 a.1, .string a.2.1, .int .i64 a.2.2.1, .slice a.2.2.2.1.a a.2.2.2.1.len a.2.2.2.1.cap, .slice a.2.2.2.2.1.a a.2.2.2.2.1.len a.2.2.2.2.1.cap, .slice a.2.2.2.2.2.1.a a.2.2.2.2.2.1.len a.2.2.2.2.2.1.cap, .slice a.2.2.2.2.2.2.a a.2.2.2.2.2.2.len a.2.2.2.2.2.2.cap] 60 true 0) := (k2.oth _ (by omega) fun f => f).trans (by rw [e1]; simp)
 have g2 : H2.get H1.next = some (.cells [.int .i64 b.1, .string b.2.1, .int .i64 b.2.2.1, .slice b.2.2.2.1.a b.2.2.2.1.len b.2.2.2.1.cap, .slice b.2.2.2.2.1.a b.2.2.2.2.1.len b.2.2.2.2.1.cap, .slice b.2.2.2.2.2.1.a b.2.2.2.2.2.1.len b.2.2.2.2.2.1.cap, .slice b.2.2.2.2.2.2.a b.2.2.2.2.2.2.len b.2.2.2.2.2.2.cap] 60 true 0) := by rw [e2]; simp
 have kk := k1.trans k2
 refine Gx.Wp.bnd (sldI_at g1 rfl) (Gx.Wp.bnd (sldI_at g2 rfl) (Gx.Wp.ifp (by rw [a1, b1]; simp) ?_))
 refine Gx.Wp.bnd (ldS_at g1 rfl) (Gx.Wp.bnd (ldS_at g2 rfl) (Gx.Wp.ifp (by rw [a2, b2, ba_beq]; simp) ?_))
 refine Gx.Wp.bnd (sldI_at g1 rfl) (Gx.Wp.bnd (sldI_at g2 rfl) (Gx.Wp.ifp (by rw [a3, b3]; simp) ?_))
 refine Gx.Wp.bnd (sldL_at g1 rfl) (Gx.Wp.bnd (sldL_at g2 rfl) (Gx.Wp.bnd (sameS_spec D (Row.keeps a4 kk) (Row.keeps b4 kk) h1 (by omega)) (Gx.Wp.ifp rfl ?_)))
 refine Gx.Wp.bnd (sldL_at g1 rfl) (Gx.Wp.bnd (sldL_at g2 rfl) (Gx.Wp.bnd (sameS_spec D (Row.keeps a5 kk) (Row.keeps b5 kk) h2 (by omega)) (Gx.Wp.ifp rfl ?_)))
 refine Gx.Wp.bnd (sldL_at g1 rfl) (Gx.Wp.bnd (sldL_at g2 rfl) (Gx.Wp.ifp (by rw [a6, b6]; simp) ?_))
 refine Gx.Wp.bnd (sldL_at g1 rfl) (Gx.Wp.bnd (sldL_at g2 rfl) (Gx.Wp.of ⟨by rw [a7, b7]; simp, kk⟩))
end Gs
namespace Gs
open Go Gx
abbrev Tb := Nat × RSt
def encT1 (s : Tb) : Value := ptr s.1
structure RtB (m : Nat) (r : RSt) : Prop where
 l : r.L.length ≤ m
 c : r.many ≤ m
 f : r.fails ≤ 1048576
def ansR (ss : List Tb) (r : Rq) : List Tb × Ry :=
 if r.1 < 0 then (ss, (1, nob, [])) else match ss[r.1.toNat]? with
  | none => (ss, (1, nob, []))
  | some s => (ss.set r.1.toNat (s.1, (s.2.doS r.2.1 r.2.2.1 r.2.2.2).1), ((s.2.doS r.2.1 r.2.2.1 r.2.2.2).2.1, (s.2.doS r.2.1 r.2.2.1 r.2.2.2).2.2.1, (s.2.doS r.2.1 r.2.2.1 r.2.2.2).2.2.2))
structure Bth (ss : List Sb) (ts : List Tb) : Prop where
 len : ss.length = ts.length
 rel : ∀ (i : Nat) s t, ss[i]? = some s → ts[i]? = some t → Rel s.2.2 t.2
theorem Bth.ans {ss : List Sb} {ts : List Tb} (B : Bth ss ts) (r : Rq) : Bth (ansS ss r).1 (ansR ts r).1 ∧ (ansS ss r).2 = (ansR ts r).2 := by
 unfold ansS ansR
 by_cases c : r.1 < 0
 ·rw [if_pos c, if_pos c]; exact ⟨B, rfl⟩
 ·rw [if_neg c, if_neg c]
  cases hs : ss[r.1.toNat]? with
  | none =>
   have : ts[r.1.toNat]? = none := by
    rw [List.getElem?_eq_none_iff] at hs ⊢
    rw [← B.len]; exact hs
   rw [this]; exact ⟨B, rfl⟩
  | some s =>
   have hlt : r.1.toNat < ts.length := by rw [← B.len]; exact (List.getElem?_eq_some_iff.1 hs).1
   obtain ⟨t, ht⟩ := isome hlt
   rw [ht]
   have D := (B.rel _ s t hs ht).do r.2.1 r.2.2.1 r.2.2.2
   refine ⟨⟨by simp [B.len], fun i s' t' hi hj => ?_⟩, by simp only [D.2]⟩
   have hlt1 := (List.getElem?_eq_some_iff.1 hs).1
   by_cases ci : i = r.1.toNat
   ·subst ci
    rw [List.getElem?_set] at hi hj
    simp [hlt] at hj
    simp [hlt1] at hi
    subst hi hj
    exact D.1
   ·rw [List.getElem?_set_ne (fun z => ci z.symm)] at hi hj
    exact B.rel i s' t' hi hj
theorem RR.apartE {S : Nat → Prop} {h h' : AHeap} {tb : Nat} {r : RSt} (R : RR h tb r) (c : Chg S h h') (hS : ∀ y, S y → y ≠ tb ∧ ∃ c e rw fz, h.get y = some (.cells c e rw fz) ∧ e ≠ 124) : RR h' tb r := by
 obtain ⟨e, l, hb, A⟩ := R.blk
 refine ⟨⟨e, l, (c.oth _ R.lt fun q => (hS _ q).1 rfl).trans hb, A.st.imp id ?_, fun a ha => ⟨Nat.lt_of_lt_of_le (A.lt a ha).1 c.nx, (A.lt a ha).2⟩⟩, Nat.lt_of_lt_of_le R.lt c.nx⟩
 rintro ⟨b, h1, h2, h3⟩
 refine ⟨b, h1, (c.oth b (A.lt ⟨b, 0, some (2 + 1)⟩ (by rw [h1])).1 fun q => ?_).trans h2, h3⟩
 obtain ⟨_, c', e', rw', fz', g, ne⟩ := hS b q
 exact blk_ne g h2 ne rfl
end Gs
namespace Gs
open Go Gx
theorem Two.keeps {h h' : AHeap} {sb rb tb i : Nat} {p : PS} {r : RSt} (T : Two h sb rb tb i p r) (k : Keeps h h') : Two h' sb rb tb i p r := ⟨T.s.keeps k, T.t.keeps k, T.r, T.l, T.c, T.f, T.q, T.lt⟩
theorem RR.sb {h h1 : AHeap} {sb rb tb : Nat} {r : RSt} (t : RR h tb r) (lt : sb < tb ∧ rb < tb) (c : Chg (SB sb rb) h h1) : RR h1 tb r := t.chg c fun y hy z => by rcases z with z | z <;> omega
end Gs
namespace Gs
open Go Gx
def rs0 (q : Nat) : RSt := ⟨q, 0, 0, false, []⟩
theorem rNew_spec {k : Nat} (D : CallF) {h : AHeap} {q : Nat} (hq : q ≤ 1073741824) : ∃ h', ref07_New k D (q : Int) h = some ((some ⟨h.next, 0, none⟩, 0), h') ∧ Keeps h h' ∧ RR h' h.next (rs0 q) := by
 refine ⟨h.new (.cells [.int .i64 (q : Int), .int .i64 0, .int .i64 0, .bool false, .slice none 0 0] 48 true 0), ?_, Keeps.new h _, ⟨(), ⟨none, 0, 0⟩, ?_, AccV.nil _ _ _ _ _⟩, ?_⟩
 ·simp only [ref07_New]
  refine jn ?_
  refine ifn (by simp) ?_
  rw [decide_eq_false (by omega)]
  exact ifn (by decide) rfl
 ·rw [AHeap.get_new, if_pos rfl]; rfl
 ·simp only [AHeap.next_new]; omega
end Gs
namespace Gs
open Go Gx
structure Mk (base q : Nat) (h : AHeap) (s r : Slc) (ss : List Sb) (ts : List Tb) : Prop where
 As : Acc encB 23 base h s ss
 At : Acc encT1 39 base h r ts
 sr : ∀ t ∈ ss, SR h t.1 t.2.1 (ps0 q) ∧ t.2.2 = ps0 q ∧ base ≤ t.1 ∧ base ≤ t.2.1
 tr : ∀ t ∈ ts, h.get t.1 = some (.cells [.int .i64 (q : Int), .int .i64 0, .int .i64 0, .bool false, .slice none 0 0] 48 true 0) ∧ t.2 = rs0 q ∧ base ≤ t.1 ∧ t.1 < h.next
 aps : ss.Pairwise fun s t => ¬ SB s.1 s.2.1 t.1 ∧ ¬ SB s.1 s.2.1 t.2.1
 apt : ts.Pairwise fun s t => s.1 ≠ t.1
 len : ss.length = ts.length
theorem Mk.nil (base q : Nat) (h : AHeap) : Mk base q h nils nils [] [] := ⟨Acc.nil _ _ _ _, Acc.nil _ _ _ _, fun t ht => by simp at ht, fun t ht => by simp at ht, .nil, .nil, rfl⟩
theorem SR.notP {h : AHeap} {sb rb : Nat} {p : PS} (s : SR h sb rb p) {y : Nat} {m : Option Addr} {c : List Value} {e : TypeId} {r : Bool} {fz : Nat} (hy : h.get y = some (.cells (.pointer m :: c) e r fz)) : ¬ SB sb rb y := by
 rintro (rfl | rfl)
 ·obtain ⟨i, hb⟩ := s.blk
  rw [hy] at hb
  simp at hb
 ·have := s.mp
  rw [hy] at this
  cases this
theorem SR.not6 {h : AHeap} {sb rb : Nat} {p : PS} (s : SR h sb rb p) {y : Nat} {c : List Value} {e : TypeId} {r : Bool} {fz : Nat} (hy : h.get y = some (.cells c e r fz)) (hl : c.length ≠ 6) : ¬ SB sb rb y := by
 rintro (rfl | rfl)
 ·obtain ⟨i, hb⟩ := s.blk
  rw [hy] at hb
  simp at hb
  rw [hb.1] at hl
  exact hl rfl
 ·have := s.mp
  rw [hy] at this
  cases this
theorem accP_blk {α : Type} {enc : α → Value} (hp : ∀ x, ∃ m, enc x = .pointer m) {e : TypeId} {base : Nat} {h : AHeap} {s : Slc} {xs : List α} (A : Acc enc e base h s xs) {a : Addr} (ha : s.a = some a) : ∃ m c, h.get a.block = some (.cells (.pointer m :: c) e true 0) := by
 rcases A.st with ⟨rfl, _⟩ | ⟨b, g⟩
 ·cases ha
 ·rw [g.s] at ha
  cases ha
  cases xs with
  | nil => exact absurd rfl g.ne
  | cons x xs =>
   obtain ⟨m, hm⟩ := hp x
   have := g.blk
   simp only [outB, List.map_cons, hm] at this
   exact ⟨_, _, this⟩
theorem encB_one (s : Sb) : one (encB s) = true := rfl
theorem encT1_one (s : Tb) : one (encT1 s) = true := rfl
theorem encB_ptr (s : Sb) : ∃ m, encB s = .pointer m := ⟨_, rfl⟩
theorem encT1_ptr (s : Tb) : ∃ m, encT1 s = .pointer m := ⟨_, rfl⟩
theorem Mk.more {k : Nat} {D : CallF} {base q : Nat} {h : AHeap} {s r : Slc} {ss : List Sb} {ts : List Tb} (M : Mk base q h s r ss ts) (hq : q ≤ 1073741824) (hl : ss.length ≤ 1000) (hb : base ≤ h.next) {R : Type} {Q : R → Prop} {f : Slc → Slc → AHeap → Option R}
  (hf : ∀ (s' r' : Slc) (h' : AHeap) (x : Sb) (y : Tb), Mk base q h' s' r' (ss ++ [x]) (ts ++ [y]) → Chg (fun y => base ≤ y) h h' → Gx.Wp (f s' r' h') Q) :
  Gx.Wp ((store_New k D (q : Int) h).bind fun r10 => (ref07_New k D (q : Int) r10.2).bind fun r11 => newK r11.2 (.cells [.pointer r10.1.1] 23 true 0) fun h12 => (rdS 1 (⟨some ⟨r11.2.next, 0, some 0⟩, 1, 1⟩ : Slc) h12).bind fun n14 => (appendA 1 8 23 h12 s n14 1).bind fun r13 =>
   newK r13.2 (.cells [.pointer r11.1.1] 39 true 0) fun h15 => (rdS 1 (⟨some ⟨r13.2.next, 0, some 0⟩, 1, 1⟩ : Slc) h15).bind fun n17 => (appendA 1 8 39 h15 r n17 1).bind fun r16 => f r13.1 r16.1 r16.2) Q := by
 obtain ⟨h1, e1, k1, s1⟩ := New_spec (k := k) D (h := h) hq
 refine Gx.Wp.bnd e1 ?_
 obtain ⟨h2, e2, k2, t2⟩ := rNew_spec (k := k) D (h := h1) hq
 refine Gx.Wp.bnd e2 ?_
 have n1 := k1.nx
 have n2 := k2.nx
 have lt1 := s1.lt
 have tlt := t2.lt
 obtain ⟨x, ex⟩ : ∃ x : Sb, x = (h.next + 1, h.next, ps0 q) := ⟨_, rfl⟩
 obtain ⟨y, ey⟩ : ∃ y : Tb, y = (h1.next, rs0 q) := ⟨_, rfl⟩
 have c2 : h2.get h1.next = some (.cells [.int .i64 (q : Int), .int .i64 0, .int .i64 0, .bool false, .slice none 0 0] 48 true 0) := by
  have e := e2
  simp only [ref07_New, joinK] at e
  rw [if_neg (by simp), decide_eq_false (by omega), if_neg (by decide)] at e
  simp only [Option.some.injEq, Prod.mk.injEq] at e
  rw [← e.2]; simp
 have As := (M.As.keeps k1).keeps k2
 have At := (M.At.keeps k1).keeps k2
 obtain ⟨s', h3, a3, As', c3, d3⟩ := As.push encB_one x (bytes := 8) (by omega) (by decide) (by omega)
 have S2 : ∀ t ∈ ss ++ [x], SR h2 t.1 t.2.1 (ps0 q) ∧ t.2.2 = ps0 q ∧ base ≤ t.1 ∧ base ≤ t.2.1 := by
  intro t ht
  rcases List.mem_append.1 ht with ht | ht
  ·obtain ⟨b1, b2, b3⟩ := M.sr t ht
   exact ⟨(b1.keeps k1).keeps k2, b2, b3⟩
  ·simp at ht; subst ht ex
   exact ⟨s1.keeps k2, rfl, by dsimp only; omega, hb⟩
 have T2 : ∀ t ∈ ts ++ [y], h2.get t.1 = some (.cells [.int .i64 (q : Int), .int .i64 0, .int .i64 0, .bool false, .slice none 0 0] 48 true 0) ∧ t.2 = rs0 q ∧ base ≤ t.1 ∧ t.1 < h2.next := by
  intro t ht
  rcases List.mem_append.1 ht with ht | ht
  ·obtain ⟨b1, b2, b3, b4⟩ := M.tr t ht
   exact ⟨k2.got (by omega) (k1.got (by omega) b1), b2, b3, by omega⟩
  ·simp at ht; subst ht ey
   exact ⟨c2, rfl, by dsimp only; omega, by dsimp only; omega⟩
 refine (show newK h2 (.cells [encB x] 23 true 0) (fun h12 => (rdS 1 (⟨some ⟨h2.next, 0, some 0⟩, 1, 1⟩ : Slc) h12).bind fun n14 => (appendA 1 8 23 h12 s n14 1).bind fun r13 =>
   newK r13.2 (.cells [.pointer (some ⟨h1.next, 0, none⟩)] 39 true 0) fun h15 => (rdS 1 (⟨some ⟨r13.2.next, 0, some 0⟩, 1, 1⟩ : Slc) h15).bind fun n17 => (appendA 1 8 39 h15 r n17 1).bind fun r16 => f r13.1 r16.1 r16.2) = _ by rw [ex]) ▸ ?_
 refine Gx.Wp.bnd rdS_one (Gx.Wp.bnd a3 ?_)
 have n3 := c3.nx
 have sk : ∀ y, ofS s y → ∃ m c, h2.get y = some (.cells (.pointer m :: c) 23 true 0) := fun y ⟨a, ha, q⟩ => q ▸ accP_blk encB_ptr As ha
 have At3 := At.chg c3 fun a ha z => by
  obtain ⟨m, c, g⟩ := sk _ z
  obtain ⟨m', c', g'⟩ := accP_blk encT1_ptr At ha
  exact blk_ne g g' (by decide) rfl
 obtain ⟨r', h4, a4, At', c4, d4⟩ := At3.push encT1_one y (bytes := 8) (by rw [← M.len]; omega) (by decide) (by omega)
 refine (show newK h3 (.cells [encT1 y] 39 true 0) (fun h15 => (rdS 1 (⟨some ⟨h3.next, 0, some 0⟩, 1, 1⟩ : Slc) h15).bind fun n17 => (appendA 1 8 39 h15 r n17 1).bind fun r16 => f s' r16.1 r16.2) = _ by rw [ey]) ▸ ?_
 refine Gx.Wp.bnd rdS_one (Gx.Wp.bnd a4 ?_)
 have rk : ∀ y, ofS r y → ∃ m c, h3.get y = some (.cells (.pointer m :: c) 39 true 0) := fun y ⟨a, ha, q⟩ => q ▸ accP_blk encT1_ptr At3 ha
 have n4 := c4.nx
 refine hf s' r' h4 x y ⟨As'.chg c4 fun a ha z => ?_, At', fun t ht => ?_, fun t ht => ?_, ?_, ?_, by simp [M.len]⟩ (Chg.beh (T := fun y => base ≤ y) (Chg.keeps (k1.trans k2)) ((c3.wk fun y _ ⟨a, ha, q⟩ => by have := (As.lt a ha).2; omega).trans (c4.wk fun y _ ⟨a, ha, q⟩ => by have := (At3.lt a ha).2; omega)) fun y hy z => z)
 ·obtain ⟨m, c, g⟩ := rk _ z
  obtain ⟨m', c', g'⟩ := accP_blk encB_ptr As' ha
  exact blk_ne g g' (by decide) rfl
 ·obtain ⟨b1, b2, b3⟩ := S2 t ht
  have q3 := b1.chg c3 (fun z => by obtain ⟨m, c, g⟩ := sk _ z; exact b1.notP g (.inl rfl)) fun z => by obtain ⟨m, c, g⟩ := sk _ z; exact b1.notP g (.inr rfl)
  exact ⟨q3.chg c4 (fun z => by obtain ⟨m, c, g⟩ := rk _ z; exact q3.notP g (.inl rfl)) fun z => by obtain ⟨m, c, g⟩ := rk _ z; exact q3.notP g (.inr rfl), b2, b3⟩
 ·obtain ⟨b1, b2, b3, b4⟩ := T2 t ht
  have q3 := c3.got b4 (fun z => by obtain ⟨m, c, g⟩ := sk _ z; exact blk_ne g b1 (by decide) rfl) b1
  exact ⟨c4.got (by omega) (fun z => by obtain ⟨m, c, g⟩ := rk _ z; exact blk_ne g q3 (by decide) rfl) q3, b2, b3, by omega⟩
 ·refine List.pairwise_append.2 ⟨M.aps, by simp, fun a ha b hb => ?_⟩
  simp at hb; subst hb ex
  have := (M.sr a ha).1.lt
  exact ⟨fun z => by rcases z with z | z <;> simp only at z <;> omega, fun z => by rcases z with z | z <;> simp only at z <;> omega⟩
 ·refine List.pairwise_append.2 ⟨M.apt, by simp, fun a ha b hb => ?_⟩
  simp at hb; subst hb ey
  have := (M.tr a ha).2.2.2
  dsimp only; omega
end Gs
namespace Gs
open Go Gx
def TSet (ts : List Tb) (y : Nat) : Prop := ∃ t ∈ ts, y = t.1
structure Rts (h : AHeap) (sl : Slc) (m : Nat) (ts : List Tb) : Prop where
 rd : Row encT1 h sl ts
 fr : ∀ a, sl.a = some a → ¬ TSet ts a.block
 st : ∀ (i : Nat) t, ts[i]? = some t → RR h t.1 t.2 ∧ RtB m t.2
 ap : ∀ (i j : Nat) s t, ts[i]? = some s → ts[j]? = some t → i ≠ j → s.1 ≠ t.1
theorem RR.ty {h : AHeap} {tb : Nat} {r : RSt} (R : RR h tb r) : ∃ c, h.get tb = some (.cells c 48 true 0) := by
 obtain ⟨_, l, hb, _⟩ := R.blk
 exact ⟨_, hb⟩
theorem Rts.keeps {h h' : AHeap} {sl : Slc} {m : Nat} {ts : List Tb} (T : Rts h sl m ts) (k : Keeps h h') : Rts h' sl m ts := ⟨Row.keeps T.rd k, T.fr, fun i s hi => ⟨(T.st i s hi).1.keeps k, (T.st i s hi).2⟩, T.ap⟩
theorem rput_len (r : RSt) (n d : ByteArray) : (r.putS n d).1.L.length ≤ r.L.length + 1 ∧ (r.putS n d).1.many = r.many ∧ (r.putS n d).1.fails = r.fails := by
 unfold RSt.putS
 have := ly_len n d r.L
 split
 ·exact ⟨Nat.le_succ _, rfl, rfl⟩
 ·split
  ·exact ⟨Nat.le_succ _, rfl, rfl⟩
  ·exact ⟨this, rfl, rfl⟩
theorem rdo_len (r : RSt) (kind : Int) (n d : ByteArray) : (r.doS kind n d).1.L.length ≤ r.L.length + 1 ∧ (r.doS kind n d).1.many = r.many + 1 ∧ (r.doS kind n d).1.fails ≤ r.fails := by
 have b : r.up.L.length ≤ r.L.length + 1 ∧ r.up.many = r.many + 1 ∧ r.up.fails ≤ r.fails := ⟨Nat.le_succ _, rfl, Nat.le_refl _⟩
 unfold RSt.doS
 split
 ·exact b
 ·split
  ·exact ⟨Nat.le_succ _, rfl, Nat.sub_le _ _⟩
  ·split
   ·obtain ⟨h1, h2, h3⟩ := rput_len r.up n d
    exact ⟨h1, h2, by show (r.up.putS n d).1.fails ≤ _; rw [h3]; exact Nat.le_refl _⟩
   ·split
    ·exact b
    ·split
     ·split <;> exact b
     ·split
      ·split
       ·refine ⟨?_, rfl, Nat.le_refl _⟩
        show (r.L.take (fi n r.L) ++ r.L.drop (fi n r.L + 1)).length ≤ _
        have := fi_le n r.L
        simp; omega
       ·exact b
      ·exact b
end Gs
namespace Gs
open Go Gx
section
variable {base q : Nat} {h : AHeap} {s r : Slc} {ss : List Sb} {ts : List Tb}
theorem pair_of {α : Type} {R : α → α → Prop} {l : List α} (p : l.Pairwise R) (sy : ∀ a b, a ∈ l → b ∈ l → R a b → R b a) {i j : Nat} {a b : α} (hi : l[i]? = some a) (hj : l[j]? = some b) (hij : i ≠ j) : R a b := by
 obtain ⟨li, rfl⟩ := getElem_of hi
 obtain ⟨lj, rfl⟩ := getElem_of hj
 rw [List.pairwise_iff_getElem] at p
 rcases Nat.lt_or_ge i j with c | c
 ·exact p i j li lj c
 ·exact sy _ _ (List.getElem_mem _) (List.getElem_mem _) (p j i lj li (by omega))
theorem Mk.sts (M : Mk base q h s r ss ts) (hq : q ≤ 1073741824) : Sts h s 0 ss := by
 refine ⟨M.As.row, fun a ha z => ?_, fun i t hi => ?_, fun i j a b hi hj hij => ?_⟩
 ·obtain ⟨t, ht, z⟩ := z
  obtain ⟨m, c, g⟩ := accP_blk encB_ptr M.As ha
  exact ((M.sr t ht).1).notP g z
 ·obtain ⟨b1, b2, _⟩ := M.sr t (mem_of hi)
  rw [b2]
  exact ⟨b1, good0, Nat.le_refl _, Nat.le_refl _, Nat.zero_le _, hq⟩
 ·refine pair_of M.aps (fun a b ha hb z => ?_) hi hj hij
  obtain ⟨z1, z2⟩ := z
  refine ⟨fun w => ?_, fun w => ?_⟩
  ·rcases w with w | w
   ·exact z1 (.inl w.symm)
   ·exact z2 (.inl w.symm)
  ·rcases w with w | w
   ·exact z1 (.inr w.symm)
   ·exact z2 (.inr w.symm)
theorem Mk.rr (M : Mk base q h s r ss ts) : ∀ t ∈ ts, RR h t.1 t.2 := fun t ht => by
 obtain ⟨b1, b2, b3, b4⟩ := M.tr t ht
 rw [b2]
 exact ⟨⟨(), ⟨none, 0, 0⟩, b1, AccV.nil _ _ _ _ _⟩, b4⟩
theorem Mk.sset (M : Mk base q h s r ss ts) {y : Nat} (z : SSet ss y) : base ≤ y ∧ y < h.next := by
 obtain ⟨t, ht, z⟩ := z
 obtain ⟨b1, b2, b3, b4⟩ := M.sr t ht
 have := b1.lt
 rcases z with rfl | rfl <;> omega
theorem Mk.parts (M : Mk base q h s r ss ts) {y : Nat} (z : SSet ss y) : ¬ TSet ts y := by
 obtain ⟨t, ht, z⟩ := z
 rintro ⟨u, hu, rfl⟩
 exact ((M.sr t ht).1).not6 (M.tr u hu).1 (by simp) z
theorem Mk.ls (M : Mk base q h s r ss ts) {a : Addr} (ha : s.a = some a) : base ≤ a.block ∧ a.block < h.next ∧ ¬ SSet ss a.block ∧ ¬ TSet ts a.block := by
 have b := M.As.lt a ha
 obtain ⟨m, c, g⟩ := accP_blk encB_ptr M.As ha
 refine ⟨b.2, b.1, fun ⟨t, ht, z⟩ => ((M.sr t ht).1).notP g z, fun ⟨t, ht, z⟩ => blk_ne g (M.tr t ht).1 (by decide) z⟩
end
theorem both_spec {k : Nat} (D : CallF) {h : AHeap} (hk : 4 ≤ k) : Gx.Wp (law08_both k D h) fun z => ∃ ss ts, Mk h.next 200 z.2 z.1.1 z.1.2 ss ts ∧ Keeps h z.2 ∧ ss.length = 3 := by
 simp only [law08_both]
 refine Gx.Wp.jn fun j hj => ?_
 unfold law08_both_l0
 obtain ⟨bot, eb⟩ := iterK_of (fun _ _ _ _ => none) (law08_both_l0b k D j) hk
 rw [eb]
 have st : ∀ {f : Slc → Slc → Int → AHeap → Option ((Slc × Slc) × AHeap)} {h' : AHeap} {s r : Slc} {ss : List Sb} {ts : List Tb} {i : Nat} {Q : (Slc × Slc) × AHeap → Prop}, i < 3 → Mk h.next 200 h' s r ss ts → ss.length = i → h.next ≤ h'.next → (∀ (s' r' : Slc) (h2 : AHeap) ss' ts', Mk h.next 200 h2 s' r' ss' ts' → ss'.length = i + 1 → Chg (fun y => h.next ≤ y) h' h2 → Gx.Wp (f s' r' ((i + 1 : Nat) : Int) h2) Q) → Gx.Wp (law08_both_l0b k D j f s r (i : Int) h') Q := by
  intro f h' s r ss ts i Q hi M hl hn hf
  simp only [law08_both_l0b]
  refine Gx.Wp.ifp (by simp; omega) ?_
  rw [Gx.w1 (by omega)]
  exact M.more (q := 200) (by decide) (by omega) hn fun s' r' h2 x y M' c => hf s' r' h2 _ _ M' (by simp [hl]) c
 simp only [iterK_s]
 refine st (i := 0) (by decide) (Mk.nil _ _ _) rfl (Nat.le_refl _) fun s1 r1 h1 ss1 ts1 M1 l1 c1 => ?_
 have n1 := c1.nx
 refine st (i := 1) (by decide) M1 l1 n1 fun s2 r2 h2 ss2 ts2 M2 l2 c2 => ?_
 have n2 := c2.nx
 refine st (i := 2) (by decide) M2 l2 (by omega) fun s3 r3 h3 ss3 ts3 M3 l3 c3 => ?_
 simp only [law08_both_l0b]
 refine Gx.Wp.ifn (by decide) ?_
 subst hj
 refine Gx.Wp.of ⟨ss3, ts3, M3, ((c1.trans c2).trans c3) |> fun c => ⟨c.nx, fun x hx _ => c.oth x hx (by omega)⟩, l3⟩
end Gs
namespace Gs
open Go Gx
theorem TSet_set {ss : List Tb} {i : Nat} {s : Tb} {p : RSt} (hi : ss[i]? = some s) (y : Nat) : TSet (ss.set i (s.1, p)) y ↔ TSet ss y := by
 constructor
 ·rintro ⟨t, ht, q⟩
  rcases List.mem_or_eq_of_mem_set ht with ht | rfl
  ·exact ⟨t, ht, q⟩
  ·exact ⟨s, mem_of hi, q⟩
 ·rintro ⟨t, ht, q⟩
  obtain ⟨j, hj⟩ := List.getElem?_of_mem ht
  by_cases c : j = i
  ·subst c
   rw [hi] at hj; cases hj
   have hlt := (List.getElem?_eq_some_iff.1 hi).1
   exact ⟨(s.1, p), List.mem_of_getElem? (i := j) (by rw [List.getElem?_set]; simp [hlt]), q⟩
  ·exact ⟨t, List.mem_of_getElem? (i := j) (by rw [List.getElem?_set_ne (fun z => c z.symm)]; exact hj), q⟩
theorem RAnswer_spec {k : Nat} (D : CallF) {h : AHeap} {sl : Slc} {m : Nat} {ss : List Tb} (T : Rts h sl m ss) (r : Rq) (hm : m ≤ 100000) (hk : m + 1 < k) (hk2 : 100 < k) (ht : ∀ t ∈ ss, ∀ n d, totR (lyR n d t.2.L) ≤ 1152921504606846976 ∨ fitsC n d ≠ 0) :
  Gx.Wp (ref08_Answer k D sl r h) fun z => Chg (TSet ss) h z.2 ∧ Rts z.2 sl (m + 1) (ansR ss r).1 ∧ z.1.1 = (ansR ss r).2.1 ∧ z.1.2.1 = (ansR ss r).2.2.1 ∧ Acc encS 9 h.next z.2 z.1.2.2 (ansR ss r).2.2.2 := by
 obtain ⟨st, kind, n, d⟩ := r
 simp only [ref08_Answer]
 obtain ⟨H1, e1⟩ : ∃ H1, H1 = h.new (.cells [.int .i64 st, .int .i64 kind, .string n, .string d] 32 true 0) := ⟨_, rfl⟩
 rw [← e1]
 obtain ⟨H2, e2⟩ : ∃ H2, H2 = H1.new (.cells [.int .i64 0, .string ⟨#[]⟩, .slice none 0 0] 29 true 0) := ⟨_, rfl⟩
 rw [← e2]
 have k1 : Keeps h H1 := e1 ▸ Keeps.new h _
 have k2 : Keeps h H2 := k1.trans (e2 ▸ Keeps.new H1 _)
 have n1 : H1.next = h.next + 1 := by rw [e1]; rfl
 have n2 : H2.next = h.next + 2 := by rw [e2]; simp [n1]
 have rq : H2.get h.next = some (.cells [.int .i64 st, .int .i64 kind, .string n, .string d] 32 true 0) := by
  rw [e2]; simp only [AHeap.get_new]; rw [if_neg (by omega), e1]; simp
 have rs : H2.get H1.next = some (.cells [.int .i64 0, .string ⟨#[]⟩, .slice none 0 0] 29 true 0) := by rw [e2]; simp
 have T2 := T.keeps k2
 have len : sl.len = ss.length := T.rd.1
 refine Gx.Wp.jn fun j8 h8 => Gx.Wp.bnd (sldI_at rq rfl) ?_
 have bad : ansR ss (st, kind, n, d) = (ss, (1, nob, [])) → Gx.Wp (j8 sl (some ⟨h.next, 0, none⟩) (some ⟨H1.next, 0, none⟩) true H2) fun z => Chg (TSet ss) h z.2 ∧ Rts z.2 sl (m + 1) (ansR ss (st, kind, n, d)).1 ∧ z.1.1 = (ansR ss (st, kind, n, d)).2.1 ∧ z.1.2.1 = (ansR ss (st, kind, n, d)).2.2.1 ∧ Acc encS 9 h.next z.2 z.1.2.2 (ansR ss (st, kind, n, d)).2.2.2 := by
  intro ea
  subst h8
  refine Gx.Wp.ifp rfl (Gx.Wp.bnd rfl ?_)
  refine fin3 rs rfl 1 ⟨#[]⟩ ⟨none, 0, 0⟩ ?_
  have kf : Keeps h (H2.set H1.next (.cells [.int .i64 1, .string ⟨#[]⟩, .slice none 0 0] 29 true 0)) := Chg.beh (T := (· = H1.next)) k2 (Chg.set (.inr rfl)) fun y hy q => by omega
  rw [ea]
  have Tf := T.keeps kf
  exact ⟨Chg.keeps kf, ⟨Tf.rd, Tf.fr, fun i s hi => ⟨(Tf.st i s hi).1, ⟨Nat.le_succ_of_le (Tf.st i s hi).2.l, Nat.le_succ_of_le (Tf.st i s hi).2.c, (Tf.st i s hi).2.f⟩⟩, Tf.ap⟩, rfl, rfl, Acc.nil _ _ _ _⟩
 by_cases c1 : st < 0
 ·refine Gx.Wp.ifp (by simpa using c1) (bad ?_)
  unfold ansR; rw [if_pos c1]
 refine Gx.Wp.ifn (by simpa using c1) (Gx.Wp.bnd (sldI_at rq rfl) ?_)
 obtain ⟨i, rfl⟩ : ∃ i : Nat, st = (i : Int) := ⟨st.toNat, by omega⟩
 by_cases c2 : ss.length ≤ i
 ·refine Gx.Wp.ifp (by rw [len]; simp; omega) (bad ?_)
  unfold ansR
  rw [if_neg c1]
  show (match ss[((i : Nat) : Int).toNat]? with | none => _ | some s => _) = _
  rw [Int.toNat_natCast, List.getElem?_eq_none c2]
 obtain ⟨s, hsi⟩ := isome (l := ss) (i := i) (by omega)
 refine Gx.Wp.ifn (by rw [len]; simp; omega) (Gx.Wp.bnd (sldI_at rq rfl) ?_)
 obtain ⟨q, q1, q2, _⟩ := T2.rd.rd hsi
 have ldp : Gx.ldP q H2 = some (some ⟨s.1, 0, none⟩) := by simp only [Gx.ldP, q2]; rfl
 refine Gx.Wp.bnd q1 (Gx.Wp.bnd ldp ?_)
 subst h8
 refine Gx.Wp.ifn (fun z => by cases z) (Gx.Wp.bnd rfl (Gx.Wp.bnd (sldI_at rq rfl) (Gx.Wp.bnd q1 (Gx.Wp.bnd ldp (Gx.Wp.bnd rfl (Gx.Wp.bnd (sldA_at rq rfl) (Gx.Wp.bnd rfl ?_)))))))
 obtain ⟨sR, sB⟩ := T2.st i s hsi
 refine Gx.Wp.call (rDo_spec D sR i kind n d (by have := sB.l; omega) (by have := sB.c; omega) sB.f (by have := sB.l; omega) hk2 (fun _ => ht s (mem_of hsi) n d)) fun r21 hq => ?_
 obtain ⟨a1, a2, A, c, s1⟩ := hq
 rw [a1, a2]
 refine Gx.Wp.bnd rfl ?_
 have inS : ∀ y, y = s.1 → TSet ss y := fun y z => ⟨s, mem_of hsi, z⟩
 have lts : ∀ y, TSet ss y → y < h.next := by
  rintro y ⟨t, ht, z⟩
  obtain ⟨j, hj⟩ := List.getElem?_of_mem ht
  have := ((T.st j t hj).1).lt
  omega
 have rs2 : r21.2.get H1.next = some (.cells [.int .i64 0, .string ⟨#[]⟩, .slice none 0 0] 29 true 0) := (c.oth _ (by omega) (fun z => by have := lts _ (inS _ z); omega)).trans rs
 refine fin3 rs2 rfl _ _ _ ?_
 have ea : ansR ss ((i : Int), kind, n, d) = (ss.set i (s.1, (s.2.doS kind n d).1), (((s.2.doS kind n d).2.1 : Int), (s.2.doS kind n d).2.2.1, (s.2.doS kind n d).2.2.2)) := by
  unfold ansR
  rw [if_neg c1]
  show (match ss[((i : Nat) : Int).toNat]? with | none => _ | some s => _) = _
  rw [Int.toNat_natCast, hsi]
 rw [ea]
 have nA := c.nx
 have cS : Chg (TSet ss) h r21.2 := (Chg.keeps k2).trans (c.wk fun y _ z => inS y z)
 have cF : Chg (TSet ss) h (r21.2.set H1.next (.cells [.int .i64 ((s.2.doS kind n d).2.1 : Int), .string (s.2.doS kind n d).2.2.1, .slice r21.1.2.2.a r21.1.2.2.len r21.1.2.2.cap] 29 true 0)) := Chg.beh (T := (· = H1.next)) cS (Chg.set (.inr rfl)) fun y hy z => by omega
 obtain ⟨HF, eF⟩ : ∃ HF, HF = r21.2.set H1.next (.cells [.int .i64 ((s.2.doS kind n d).2.1 : Int), .string (s.2.doS kind n d).2.2.1, .slice r21.1.2.2.a r21.1.2.2.len r21.1.2.2.cap] 29 true 0) := ⟨_, rfl⟩
 rw [← eF] at cF ⊢
 have cl : Chg (· = H1.next) r21.2 HF := eF ▸ Chg.set (.inr rfl)
 have hlt := (List.getElem?_eq_some_iff.1 hsi).1
 refine ⟨cF, ⟨?_, ?_, ?_, ?_⟩, rfl, rfl, ⟨(A.chg cl fun a ha z => by have := (A.lt a ha).2; omega).st, fun a ha => ⟨Nat.lt_of_lt_of_le (A.lt a ha).1 cl.nx, by have := (A.lt a ha).2; omega⟩⟩⟩
 ·-- the list is the same
  have R : Row encT1 HF sl ss := Row.chg T.rd cF T.fr
  refine ⟨by rw [R.1]; simp, fun j t hj => ?_⟩
  by_cases cj : j = i
  ·subst cj
   rw [List.getElem?_set] at hj
   simp [hlt] at hj
   subst hj
   exact R.2 j s hsi
  ·rw [List.getElem?_set_ne (fun z => cj z.symm)] at hj
   exact R.2 j t hj
 ·intro a ha z
  exact T.fr a ha ((TSet_set hsi _).1 z)
 ·intro j t hj
  by_cases cj : j = i
  ·subst cj
   rw [List.getElem?_set] at hj
   simp [hlt] at hj
   subst hj
   obtain ⟨d1, d2, d3⟩ := rdo_len s.2 kind n d
   refine ⟨s1.apartE cl fun y hy => ⟨by have := lts s.1 (inS _ rfl); show y ≠ s.1; omega, by subst hy; exact ⟨_, _, _, _, rs2, by decide⟩⟩, ⟨?_, ?_, ?_⟩⟩
   ·have := sB.l; show (s.2.doS kind n d).1.L.length ≤ _; omega
   ·have := sB.c; show (s.2.doS kind n d).1.many ≤ _; omega
   ·have := sB.f; show (s.2.doS kind n d).1.fails ≤ _; omega
  ·rw [List.getElem?_set_ne (fun z => cj z.symm)] at hj
   obtain ⟨tR, tB⟩ := T2.st j t hj
   have p1 := T.ap i j s t hsi hj (fun z => cj z.symm)
   obtain ⟨c0, g0⟩ := sR.ty
   have q1 := tR.apartE c fun y hy => ⟨by subst hy; exact p1, by subst hy; exact ⟨_, _, _, _, g0, by decide⟩⟩
   exact ⟨q1.apartE cl fun y hy => ⟨by have := lts t.1 ⟨t, mem_of hj, rfl⟩; show y ≠ t.1; omega, by subst hy; exact ⟨_, _, _, _, rs2, by decide⟩⟩, ⟨by have := tB.l; omega, by have := tB.c; omega, tB.f⟩⟩
 ·intro a b s' t' ha hb hab
  have back : ∀ (j : Nat) u, (ss.set i (s.1, (s.2.doS kind n d).1))[j]? = some u → ∃ v, ss[j]? = some v ∧ u.1 = v.1 := by
   intro j u hu
   by_cases cj : j = i
   ·subst cj
    rw [List.getElem?_set] at hu
    simp [hlt] at hu
    subst hu
    exact ⟨s, hsi, rfl⟩
   ·rw [List.getElem?_set_ne (fun z => cj z.symm)] at hu
    exact ⟨u, hu, rfl⟩
  obtain ⟨u, hu, u1⟩ := back a s' ha
  obtain ⟨v, hv, v1⟩ := back b t' hb
  have := T.ap a b u v hu hv hab
  rw [u1, v1]; exact this
end Gs
namespace Gs
open Go Gx
theorem askAll_over {K : List Ry → Prg} : ∀ {qs : List Rq} {acc : List Ry}, qs ≠ [] → (askAll qs acc K).over = false ∧ (askAll qs acc K).res = Rz.zero
 | [], _, h => absurd rfl h
 | _ :: _, _, _ => ⟨rfl, rfl⟩
theorem run_list {k : Nat} (qs : List Rq) (most : Nat) (ss : List Sb) (hn : ∀ q ∈ qs, NameOk k q) : ∃ p', RunR k most (listP qs) ss p' (ansL (qs.take (min most qs.length)) ss).1 (min most qs.length) ∧ p'.over = decide (qs.length ≤ min most qs.length) ∧
  p'.res = if qs.length ≤ min most qs.length then Rz.of (ansL (qs.take (min most qs.length)) ss).2 else Rz.zero := by
 by_cases c : qs.length ≤ most
 ·rw [Nat.min_eq_right c, List.take_length]
  refine ⟨finP (Rz.of (ansL qs ss).2), ?_, ?_, ?_⟩
  ·have := run_all (k := k) (K := fun ys => finP (Rz.of ys)) (most := most - qs.length) (acc := []) (ss := ss) hn RunR.over
   rw [Nat.zero_add, Nat.sub_add_cancel c] at this
   exact this
  ·simp [finP, Prg.over]
  ·rw [if_pos (Nat.le_refl _)]; rfl
 ·rw [Nat.min_eq_left (by omega)]
  have := run_part (k := k) (K := fun ys => finP (Rz.of ys)) (most := most) (acc := []) (ss := ss) hn (by omega)
  have ne : qs.drop most ≠ [] := fun z => by have := congrArg List.length z; simp at this; omega
  refine ⟨_, this, ?_, ?_⟩
  ·rw [(askAll_over ne).1, decide_eq_false (by omega)]
  ·rw [(askAll_over ne).2, if_neg (by omega)]
theorem one_sts {h : AHeap} {b sb rb : Nat} {e : TypeId} {p : PS} {sp : Option Nat} {m : Nat} (hb : h.get b = some (.cells [ptr sb] e true 0)) (hl : b < h.next) (s : SR h sb rb p) (B : StB m p) : Sts h ⟨some ⟨b, 0, sp⟩, 1, 1⟩ m [(sb, rb, p)] := by
 refine ⟨⟨rfl, fun i x hx => ?_⟩, fun a ha q => ?_, fun i t hi => ?_, fun i j x y hi hj hij => ?_⟩
 ·cases i with
  | zero => simp at hx; subst hx; exact ⟨⟨b, 0, sp⟩, _, _, _, _, rfl, hl, hb, rfl⟩
  | succ i => simp at hx
 ·cases ha
  obtain ⟨t, ht, q⟩ := q
  simp at ht; subst ht
  exact s.notP hb q
 ·cases i with
  | zero => simp at hi; subst hi; exact ⟨s, B⟩
  | succ i => simp at hi
 ·have := (List.getElem?_eq_some_iff.1 hi).1
  have := (List.getElem?_eq_some_iff.1 hj).1
  simp at *; omega
theorem answ (sb rb : Nat) : (ansL wq [(sb, rb, ps0 100)]).2 = wy := by kernel_rfl
theorem works8P {k n : Nat} {h : AHeap} (hk : 100 ≤ k) (hn : 4 ≤ n) : Gx.Wp (law08_works k (lvl k n) h) fun z => z.1 = true ∧ Keeps h z.2 := by
 simp only [law08_works]
 obtain ⟨h1, e1, k1, s1⟩ := New_spec (k := k) (lvl k n) (h := h) (q := 100) (by decide)
 refine Gx.Wp.bnd e1 (Gx.Wp.jn fun j5 hj => Gx.Wp.ifn (fun q => by cases q) ?_)
 subst hj
 refine Gx.Wp.ifn (fun q => by cases q) ?_
 have lt1 := s1.lt
 obtain ⟨H6, e6⟩ : ∃ H6, H6 = h1.new (.cells [.int .i64 0, .int .i64 1, .string (⟨#[97]⟩ : ByteArray), .string (⟨#[98]⟩ : ByteArray), .int .i64 0, .int .i64 2, .string (⟨#[97]⟩ : ByteArray), .string (⟨#[]⟩ : ByteArray)] 32 true 0) := ⟨_, rfl⟩
 dsimp only
 rw [← e6]
 have k6 : Keeps h1 H6 := e6 ▸ Keeps.new h1 _
 have n6 : H6.next = h1.next + 1 := by rw [e6]; rfl
 have g6 : H6.get h1.next = some (.cells (wq.flatMap encQ) 32 true 0) := by rw [e6]; simp; rfl
 have R6 : RowW 4 encQ H6 ⟨some ⟨h1.next, 0, some 0⟩, 2, 2⟩ wq := rowW_blk (n := 2) encQ_len g6 (by omega) (by decide)
 refine Gx.Wp.call (List_P hn R6 (by decide) (by show 2 < k; omega)) fun r7 q7 => ?_
 obtain ⟨jb, O, ej, k7, J7, oge, jge⟩ := q7
 rw [ej]
 refine Gx.Wp.ifn (fun q => by cases q) ?_
 obtain ⟨H8, e8⟩ : ∃ H8, H8 = r7.2.new (.cells [ptr (h.next + 1)] 23 true 0) := ⟨_, rfl⟩
 have e8' : r7.2.new (.cells [.pointer (some (⟨h.next + 1, 0, none⟩ : Addr))] 23 true 0) = H8 := e8.symm
 rw [e8']
 have k8 : Keeps r7.2 H8 := e8 ▸ Keeps.new r7.2 _
 have g8 : H8.get r7.2.next = some (.cells [ptr (h.next + 1)] 23 true 0) := by rw [e8]; simp
 have n8 : H8.next = r7.2.next + 1 := by rw [e8]; rfl
 have m7 := k7.nx
 have T8 : Sts H8 ⟨some ⟨r7.2.next, 0, some 0⟩, 1, 1⟩ 0 [(h.next + 1, h.next, ps0 100)] := one_sts g8 (by omega) (((s1.keeps k6).keeps k7).keeps k8) ⟨good0, Nat.le_refl _, Nat.le_refl _, Nat.zero_le _, by show 100 ≤ _; decide⟩
 obtain ⟨p', R, ov, rs⟩ := run_list (k := k) wq 9 [(h.next + 1, h.next, ps0 100)] (fun r hr => by
  simp [wq] at hr
  rcases hr with rfl | rfl <;> exact ⟨by show 1 < k; omega, by decide⟩)
 have jl := J7.lj
 refine Gx.Wp.call (Run_P (L := lvl k) (N := 4) (most := 9) hn R (J7.chg k8 fun _ _ f => f) T8 (fun y hy => ?_) (fun a ha => ?_) (by decide) (by show 0 + 2 < k; omega) (by decide)) fun r9 q9 => ?_
 ·obtain ⟨s, hs, q⟩ := hy
  simp at hs; subst hs
  refine ⟨by rcases q with q | q <;> simp only at q <;> omega, fun z => ?_⟩
  rcases z with z | z
  ·have := oge y z; rcases q with q | q <;> simp only at q <;> omega
  ·rcases q with q | q <;> simp only at q <;> omega
 ·cases ha
  refine ⟨by show r7.2.next < _; omega, fun z => ?_⟩
  rcases z with z | z
  ·have := J7.lt _ z; dsimp only at this; omega
  ·dsimp only at z; omega
 obtain ⟨O', v, J9, _, _, _, T9, c9⟩ := q9
 rw [show min 9 wq.length = wq.length from rfl, List.take_length, answ] at rs
 have rs : p'.res = ⟨0, 2, [], [nob, ⟨#[98]⟩]⟩ := rs.trans (by kernel_rfl)
 have ov : p'.over = true := ov
 refine Gx.Wp.call (Result_P _ J9 (by rw [rs]; decide) (by rw [rs]; decide)) fun r10 q10 => ?_
 obtain ⟨k10, o⟩ := q10
 rw [rs] at o
 obtain ⟨o1, o2, o3, o4, o5, o6, o7⟩ := o
 refine Gx.Wp.stL (c := [.int .i64 0, .string ⟨#[]⟩, .int .i64 0, .slice none 0 0, .slice none 0 0, .slice none 0 0, .slice none 0 0]) (e := 60) (sp := none) (by simp) rfl rfl rfl (by decide) fun H12 c12 n12 g12 => ?_
 rw [v, ov]
 refine Gx.Wp.ifp rfl (Gx.Wp.ifp rfl ?_)
 have k12 : Keeps r10.2 H12 := Chg.beh (T := (· = r10.2.next)) (Keeps.new _ _) c12 fun y hy q => by omega
 refine Gx.Wp.bnd (sldI_at g12 rfl) (Gx.Wp.ifp (by rw [o3]; rfl) (Gx.Wp.bnd (sldL_at g12 rfl) ?_))
 have k15 : Keeps H12 (H12.new (.cells [.string (⟨#[]⟩ : ByteArray), .string (⟨#[98]⟩ : ByteArray)] 9 true 0)) := Keeps.new _ _
 have R15 : Row encS (H12.new (.cells [.string (⟨#[]⟩ : ByteArray), .string (⟨#[98]⟩ : ByteArray)] 9 true 0)) ⟨some ⟨H12.next, 0, some 0⟩, 2, 2⟩ [nob, ⟨#[98]⟩] := row_lit [nob, ⟨#[98]⟩] (e := 9) (r := true) (fz := 0) (by rw [AHeap.get_new, if_pos rfl]; rfl) (by simp)
 refine Gx.Wp.bnd (sameS_spec _ (Row.keeps o5 (k12.trans k15)) R15 (by show 2 < k; omega) (by decide)) (Gx.Wp.of ⟨rfl, ?_⟩)
 have kA : Keeps h H8 := ((k1.trans k6).trans k7).trans k8
 refine (Chg.beh kA c9 fun y hy q => ?_).trans ((k10.trans k12).trans k15)
 rcases q with ⟨s, hs, q⟩ | q
 ·simp at hs; subst hs
  rcases q with q | q <;> simp only at q <;> omega
 ·have := oge y q; omega
theorem ansS_len (ss : List Sb) (q : Rq) : (ansS ss q).1.length = ss.length := by
 unfold ansS
 split
 ·rfl
 ·split
  ·rfl
  ·simp
theorem ansL_ss : ∀ (qs : List Rq) (ss : List Sb), (ansL qs ss).1.length = ss.length
 | [], _ => rfl
 | q :: qs, ss => by simp only [ansL, ansL_ss qs, ansS_len]
def ansRL : List Rq → List Tb → List Tb × List Ry
 | [], ts => (ts, [])
 | q :: qs, ts => ((ansRL qs (ansR ts q).1).1, (ansR ts q).2 :: (ansRL qs (ansR ts q).1).2)
theorem both_all : ∀ {qs : List Rq} {ss : List Sb} {ts : List Tb}, Bth ss ts → (ansL qs ss).2 = (ansRL qs ts).2 ∧ Bth (ansL qs ss).1 (ansRL qs ts).1
 | [], _, _, B => ⟨rfl, B⟩
 | q :: qs, ss, ts, B => by
  obtain ⟨B', e⟩ := B.ans q
  obtain ⟨h1, h2⟩ := both_all (qs := qs) B'
  exact ⟨by simp only [ansL, ansRL, e, h1], h2⟩
theorem ansRL_snoc : ∀ (qs : List Rq) (q : Rq) (ts : List Tb), ansRL (qs ++ [q]) ts = ((ansR (ansRL qs ts).1 q).1, (ansRL qs ts).2 ++ [(ansR (ansRL qs ts).1 q).2])
 | [], q, ts => rfl
 | r :: qs, q, ts => by simp only [List.cons_append, ansRL, ansRL_snoc qs q]
theorem ansRL_len : ∀ (qs : List Rq) (ts : List Tb), (ansRL qs ts).2.length = qs.length
 | [], _ => rfl
 | q :: qs, ts => by simp only [ansRL, List.length_cons, ansRL_len qs]
theorem TSet_ans (ts : List Tb) (r : Rq) (y : Nat) : TSet (ansR ts r).1 y ↔ TSet ts y := by
 unfold ansR
 split
 ·exact Iff.rfl
 ·split
  ·exact Iff.rfl
  ·rename_i s hs; exact TSet_set hs y
theorem tot_rel {p : PS} {r : RSt} (R : Rel p r) (hl : r.L.length ≤ 1048576) (n d : ByteArray) : totR (lyR n d r.L) ≤ 1152921504606846976 ∨ fitsC n d ≠ 0 := by
 by_cases c : fitsC n d = 0
 ·obtain ⟨hn, hd, _⟩ := fits0 c
  have RL := R.lay hn hd
  have t1 : Gs.tot (pt n d p.cl p.es) = totR (lyR n d r.L) := RL.tot
  have t2 := tot_pt (n := n) (d := d) (cl := p.cl) p.es
  have t3 := tot_le R.g
  have := R.len
  exact .inl (by omega)
 ·exact .inr c
theorem Bth.tot {ss : List Sb} {ts : List Tb} {h : AHeap} {sl : Slc} {m : Nat} (B : Bth ss ts) (T : Rts h sl m ts) (hm : m ≤ 100000) : ∀ t ∈ ts, ∀ n d, totR (lyR n d t.2.L) ≤ 1152921504606846976 ∨ fitsC n d ≠ 0 := by
 intro t ht n d
 obtain ⟨i, hi⟩ := List.getElem?_of_mem ht
 obtain ⟨s, hs⟩ := isome (l := ss) (i := i) (by rw [B.len]; exact (List.getElem?_eq_some_iff.1 hi).1)
 exact tot_rel (B.rel i s t hs hi) (by have := (T.st i t hi).2.l; omega) n d
theorem Rts.apartE {S : Nat → Prop} {h h' : AHeap} {sl : Slc} {m : Nat} {ts : List Tb} (T : Rts h sl m ts) (c : Chg S h h') (hS : ∀ y, S y → ¬ TSet ts y ∧ ∃ c e rw fz, h.get y = some (.cells c e rw fz) ∧ e ≠ 124) (ha : ∀ a, sl.a = some a → ¬ S a.block) : Rts h' sl m ts :=
 ⟨Row.chg T.rd c ha, T.fr, fun i t hi => ⟨(T.st i t hi).1.apartE c fun y hy => ⟨fun e => (hS y hy).1 ⟨t, mem_of hi, e⟩, (hS y hy).2⟩, (T.st i t hi).2⟩, T.ap⟩
end Gs
namespace Gs
open Go Gx
theorem rdo_names (r : RSt) (kind : Int) (n d : ByteArray) : (r.doS kind n d).2.2.2.length ≤ r.L.length := by
 have fl := List.length_filter_le (starts n) (r.L.map (·.1))
 rw [List.length_map] at fl
 unfold RSt.doS
 repeat' split
 all_goals first | exact fl | exact Nat.zero_le _
theorem ansR_names {ts : List Tb} {m : Nat} (h : ∀ t ∈ ts, t.2.L.length ≤ m) (q : Rq) : (ansR ts q).2.2.2.length ≤ m := by
 unfold ansR
 split
 ·exact Nat.zero_le _
 ·split
  ·exact Nat.zero_le _
  ·rename_i s hs
   exact Nat.le_trans (rdo_names _ _ _ _) (h s (mem_of hs))
section
variable {k : Nat} {h0 : AHeap} {kb : Nat} {r sl lk : Slc} {qs : List Rq} {ts0 : List Tb} {ss0 : List Sb}
structure Doc (h0 : AHeap) (kb : Nat) (r lk : Slc) (qs : List Rq) (ts0 : List Tb) (i : Nat) (h : AHeap) : Prop where
 t : Rts h r i (ansRL (qs.take i) ts0).1
 l : LR h kb lk i (Rz.of (ansRL (qs.take i) ts0).2)
 b : idsL (ansRL (qs.take i) ts0).2 ≤ i * 100000
 s : ∀ y, TSet (ansRL (qs.take i) ts0).1 y ↔ TSet ts0 y
 c : Chg (fun y => TSet ts0 y ∨ y = kb) h0 h
theorem Doc.step (D : CallF) {i : Nat} {h : AHeap} (S : Doc h0 kb r lk qs ts0 i h) (hr : ∀ a, r.a = some a → a.block ≠ kb) (B : Bth ss0 ts0) (low : ∀ y, TSet ts0 y → y < kb) {q : Rq} (hq : qs[i]? = some q) (hi : i ≤ 100) (hk : 200 < k)
  {R : Type} {Q : R → Prop} {f : AHeap → Option R} (hf : ∀ h', Doc h0 kb r lk qs ts0 (i + 1) h' → Gx.Wp (f h') Q) :
  Gx.Wp ((ref08_Answer k D r (q.1, q.2.1, q.2.2.1, q.2.2.2) h).bind fun r106 => (ref08_List_Give k D (some ⟨kb, 0, none⟩) (r106.1.1, r106.1.2.1, r106.1.2.2) r106.2).bind fun r107 => f r107.2) Q := by
 have Bi := (both_all (qs := qs.take i) B).2
 have e1 : qs.take (i + 1) = qs.take i ++ [q] := by rw [List.take_add_one, hq]; rfl
 have len := ansRL_len (qs.take i) ts0
 have li : (qs.take i).length ≤ i := by simp; omega
 refine Gx.Wp.call (RAnswer_spec D S.t q (by omega) (by omega) (by omega) (Bi.tot S.t (by omega))) fun a ha => ?_
 obtain ⟨ca, Ta, v1, v2, Aa⟩ := ha
 have nm := ansR_names (ts := (ansRL (qs.take i) ts0).1) (m := i) (fun t ht => by
  obtain ⟨j, hj⟩ := List.getElem?_of_mem ht
  exact (S.t.st j t hj).2.l) q
 have La := S.l.below ca fun y hy => low y ((S.s y).1 hy)
 have na := ca.nx
 have lk0 := S.l.lt
 rw [v1, v2]
 refine Gx.Wp.call (LGive_spec D La Aa.row (fun b hb => by have := (Aa.lt b hb).2; omega) (by omega) (by have := zof_n (ansRL (qs.take i) ts0).2; omega) (by rw [zof_ids]; have := S.b; omega) (by rw [zof_texts, List.length_map]; omega)) fun w hw => ?_
 obtain ⟨cw, Lw⟩ := hw
 obtain ⟨s', t', gb, _⟩ := La.blk
 refine hf w.2 ⟨?_, ?_, ?_, fun y => ?_, S.c.trans ((ca.wk fun y _ z => .inl ((S.s y).1 z)).trans (cw.wk fun y _ z => .inr z))⟩
 ·rw [e1, ansRL_snoc]
  exact Ta.apartE cw (fun y hy => ⟨fun z => by have := low y ((S.s y).1 ((TSet_ans _ q y).1 z)); omega, by subst hy; exact ⟨_, _, _, _, gb, by decide⟩⟩) fun a ha => hr a ha
 ·rw [e1, ansRL_snoc, zof_snoc]; exact Lw
 ·rw [e1, ansRL_snoc, idsL_app]
  have := S.b
  simp only [idsL]; omega
 ·rw [e1, ansRL_snoc]; exact (TSet_ans _ q y).trans (S.s y)
end
section
variable {k : Nat} {s r : Slc} {ss : List Sb} {ts : List Tb}
end
end Gs
namespace Gs
open Go Gx
end Gs
namespace Gs
open Go Gx
def reqT : DT := .pair (.int .i64) (.pair (.int .i64) (.pair .str (.pair .str .unit)))
def reqV (x : reqT.V) : Rq := (x.1, x.2.1, x.2.2.1, x.2.2.2.1)
theorem req_enc {h : AHeap} {x : reqT.V} {cs : List Value} (r : Gx.Rep h reqT x cs) : cs = encQ (reqV x) ∧ (reqV x).2.2.1.size ≤ 9223372036854775807 := by
 obtain ⟨_, _, rfl, ⟨rfl, _⟩, _, _, rfl, ⟨rfl, _⟩, _, _, rfl, ⟨rfl, hn⟩, _, _, rfl, ⟨rfl, _⟩, rfl⟩ := r
 exact ⟨rfl, hn⟩
end Gs
namespace Gs
open Go Gx
noncomputable def DD (k : Nat) : CallF := lvl k 60
theorem DD_sound (k : Nat) : CSound Go.Proofs.Try.prog 0 (DD k) := lvl_sound k 60
def needQ (qs : List Rq) : Nat := need (qs.map (·.2.2.1)) + qs.length + 10000000
theorem needQ_ok {k : Nat} {qs : List Rq} (hk : needQ qs ≤ k) (hz : ∀ q ∈ qs, q.2.2.1.size ≤ 9223372036854775807) : 10000000 ≤ k ∧ qs.length < k ∧ ∀ q ∈ qs, NameOk k q := by
 unfold needQ at hk
 have ng := need_ge (qs.map (·.2.2.1))
 exact ⟨by omega, by omega, fun q hq => ⟨by have := need_lt (List.mem_map.2 ⟨q, hq, rfl⟩ : q.2.2.1 ∈ qs.map (·.2.2.1)); omega, hz q hq⟩⟩
def needR (l : List reqT.V) : Nat := needQ (l.map reqV)
end Gs
namespace Gs
open Go Gx
def jobAt (qs : List Rq) (ss : List Sb) (i : Nat) : Prg := askAll (qs.drop i) (ansL (qs.take i) ss).2 fun ys => finP (Rz.of ys)
theorem ansL_snoc : ∀ (qs : List Rq) (q : Rq) (ss : List Sb), ansL (qs ++ [q]) ss = ((ansS (ansL qs ss).1 q).1, (ansL qs ss).2 ++ [(ansS (ansL qs ss).1 q).2])
 | [], q, ss => rfl
 | r :: qs, q, ss => by simp only [List.cons_append, ansL, ansL_snoc qs q]
theorem ansL_set (y : Nat) : ∀ (qs : List Rq) (ss : List Sb), SSet (ansL qs ss).1 y ↔ SSet ss y
 | [], _ => Iff.rfl
 | q :: qs, ss => (ansL_set y qs _).trans (SSet_ans ss q y)
theorem jobAt_next {qs : List Rq} {i : Nat} {q : Rq} (hq : qs[i]? = some q) : qs.take (i + 1) = qs.take i ++ [q] := by rw [List.take_add_one, hq]; rfl
theorem jobAt_ask {qs : List Rq} {ss : List Sb} {i : Nat} {q : Rq} (hq : qs[i]? = some q) : ∃ kk, jobAt qs ss i = .ask q kk ∧ kk (ansS (ansL (qs.take i) ss).1 q).2 = jobAt qs ss (i + 1) := by
 refine ⟨fun y => askAll (qs.drop (i + 1)) ((ansL (qs.take i) ss).2 ++ [y]) fun ys => finP (Rz.of ys), ?_, ?_⟩
 ·unfold jobAt; rw [dropc hq]; rfl
 ·unfold jobAt; rw [jobAt_next hq, ansL_snoc]
theorem jobAt_over {qs : List Rq} {ss : List Sb} {i : Nat} (hi : i ≤ qs.length) : (jobAt qs ss i).over = decide (i = qs.length) := by
 by_cases c : i = qs.length
 ·subst c
  unfold jobAt
  rw [List.drop_length, decide_eq_true rfl]; rfl
 ·obtain ⟨q, hq⟩ := isome (l := qs) (i := i) (by omega)
  obtain ⟨kk, e, _⟩ := jobAt_ask (ss := ss) hq
  rw [e, decide_eq_false c]; rfl
theorem jobAt_res (qs : List Rq) (ss : List Sb) : (jobAt qs ss qs.length).res = Rz.of (ansL qs ss).2 := by
 unfold jobAt
 rw [List.drop_length, List.take_length]; rfl
def TF (O : Nat → Prop) (jb : Nat) (ss : List Sb) (sl : Slc) (y : Nat) : Prop := JSet O jb y ∨ SSet ss y ∨ ofS sl y
structure TJ (k : Nat) (qs : List Rq) (ss : List Sb) (jb : Nat) (sl : Slc) (i : Nat) (O : Nat → Prop) (h : AHeap) : Prop where
 j : JobP (lvl k) 4 jb (jobAt qs ss i) i O h
 s : Sts h sl i (ansL (qs.take i) ss).1
 d : ∀ y, SSet ss y → ¬ JSet O jb y
 e : ∀ a, sl.a = some a → ¬ JSet O jb a.block
 lt : ∀ y, TF O jb ss sl y → y < h.next
theorem TJ.chg {S : Nat → Prop} {k : Nat} {qs : List Rq} {ss : List Sb} {jb : Nat} {sl : Slc} {i : Nat} {O : Nat → Prop} {h h' : AHeap} (J : TJ k qs ss jb sl i O h) (c : Chg S h h') (hs : ∀ y, TF O jb ss sl y → ¬ S y) : TJ k qs ss jb sl i O h' :=
 ⟨J.j.chg c fun y hy => hs y (.inl hy), J.s.chg c (fun y hy => hs y (.inr (.inl ((ansL_set y _ _).1 hy)))) fun a ha => hs _ (.inr (.inr ⟨a, ha, rfl⟩)), J.d, J.e, fun y hy => Nat.lt_of_lt_of_le (J.lt y hy) c.nx⟩
theorem TJ.run {k n : Nat} (hn : 4 ≤ n) (hk : 100000 < k) {qs : List Rq} {ss : List Sb} {jb : Nat} {sl : Slc} {i : Nat} {O : Nat → Prop} {h : AHeap} (J : TJ k qs ss jb sl i O h) (hi : i < qs.length) (hq : qs.length ≤ 1000) (hnm : ∀ q ∈ qs, NameOk k q) :
  Gx.Wp (port_Run k (lvl k n) (some ⟨jb, 0, none⟩) sl 1 h) fun z => ∃ O', z.1 = (1, if i + 1 = qs.length then 0 else 2) ∧ TJ k qs ss jb sl (i + 1) O' z.2 ∧ Chg (TF O jb ss sl) h z.2 ∧ ∀ y, TF O' jb ss sl y → TF O jb ss sl y ∨ h.next ≤ y := by
 obtain ⟨q, hqi⟩ := isome hi
 obtain ⟨kk, e1, e2⟩ := jobAt_ask (ss := ss) hqi
 have sS : ∀ y, SSet (ansL (qs.take i) ss).1 y ↔ SSet ss y := fun y => ansL_set y _ _
 have R : RunR k 1 (jobAt qs ss i) (ansL (qs.take i) ss).1 (jobAt qs ss (i + 1)) (ansS (ansL (qs.take i) ss).1 q).1 1 := by
  rw [e1]
  refine RunR.step (most := 0) (s := 0) (hnm q (mem_of hqi)) ?_
  rw [e2]; exact .stop
 refine Gx.Wp.mono (Run_P (L := lvl k) (N := 4) hn R J.j J.s (fun y hy => ?_) (fun a ha => ?_) (by omega) (by omega) (by omega)) fun z hz => ?_
 ·have hy := (sS y).1 hy
  exact ⟨J.lt y (.inr (.inl hy)), J.d y hy⟩
 ·exact ⟨J.lt _ (.inr (.inr ⟨a, ha, rfl⟩)), J.e a ha⟩
 ·obtain ⟨O', v, j', sub, far, sset, s', c⟩ := hz
  have hov := jobAt_over (qs := qs) (ss := ss) (i := i + 1) (by omega)
  have nx := c.nx
  have fr : ∀ y, JSet O' jb y → JSet O jb y ∨ h.next ≤ y := fun y hy => hy.elim (fun hy => (far y hy).imp .inl id) fun hy => .inl (.inr hy)
  refine ⟨O', ?_, ⟨j', ?_, fun y hy z => ?_, fun a ha z => ?_, fun y hy => ?_⟩, c.wk fun y _ z => z.elim (fun z => .inr (.inl ((sS y).1 z))) fun z => .inl (.inl z), fun y hy => ?_⟩
  ·rw [v, hov]
   by_cases ce : i + 1 = qs.length <;> simp [ce]
  ·rw [jobAt_next hqi, ansL_snoc]; exact s'
  ·rcases fr y z with z | z
   ·exact J.d y hy z
   ·have := J.lt y (.inr (.inl hy)); omega
  ·rcases fr _ z with z | z
   ·exact J.e a ha z
   ·have := J.lt _ (.inr (.inr ⟨a, ha, rfl⟩)); omega
  ·rcases hy with hy | hy
   ·rcases hy with hy | rfl
    ·exact j'.lt y hy
    ·exact j'.lj
   ·exact Nat.lt_of_lt_of_le (J.lt y (.inr hy)) nx
  ·rcases hy with hy | hy
   ·exact (fr y hy).imp .inl id
   ·exact .inl (.inr hy)
theorem TJ.begin {k : Nat} {qs : List Rq} {base q : Nat} {h hj : AHeap} {s r : Slc} {ss : List Sb} {ts : List Tb} (M : Mk base q h s r ss ts) (hq : q ≤ 1073741824) {jb : Nat} {O : Nat → Prop} (J : JobP (lvl k) 4 jb (listP qs) 0 O hj) (kp : Keeps h hj) (h1 : ∀ y, O y → h.next ≤ y) (h2 : h.next ≤ jb) : TJ k qs ss jb s 0 O hj := by
 have nx := kp.nx
 refine ⟨J, (M.sts hq).keeps kp, fun y hy z => ?_, fun a ha z => ?_, fun y hy => ?_⟩
 ·have := M.sset hy
  exact z.elim (fun z => by have := h1 y z; omega) fun z => by omega
 ·have := M.ls ha
  exact z.elim (fun z => by have := h1 _ z; omega) fun z => by omega
 ·rcases hy with (hy | rfl) | hy | ⟨a, ha, rfl⟩
  ·exact J.lt y hy
  ·exact J.lj
  ·have := M.sset hy; omega
  ·have := M.ls ha; omega
theorem TF_below {base q : Nat} {h : AHeap} {s r : Slc} {ss : List Sb} {ts : List Tb} (M : Mk base q h s r ss ts) {jb : Nat} {O : Nat → Prop} {y : Nat} (z : TF O jb ss s y) : JSet O jb y ∨ (base ≤ y ∧ y < h.next) := by
 rcases z with z | z | ⟨a, ha, rfl⟩
 ·exact .inl z
 ·exact .inr (M.sset z)
 ·have := M.ls ha; exact .inr ⟨this.1, this.2.1⟩
theorem ansL_same : ∀ {qs : List Rq} {ss uu : List Sb}, ss.map (·.2.2) = uu.map (·.2.2) → (ansL qs ss).2 = (ansL qs uu).2 ∧ (ansL qs ss).1.map (·.2.2) = (ansL qs uu).1.map (·.2.2)
 | [], _, _, e => ⟨rfl, e⟩
 | q :: qs, ss, uu, e => by
  have one : (ansS ss q).2 = (ansS uu q).2 ∧ (ansS ss q).1.map (·.2.2) = (ansS uu q).1.map (·.2.2) := by
   unfold ansS
   by_cases c : q.1 < 0
   ·rw [if_pos c, if_pos c]; exact ⟨rfl, e⟩
   ·rw [if_neg c, if_neg c]
    have g : (ss[q.1.toNat]?).map (·.2.2) = (uu[q.1.toNat]?).map (·.2.2) := by rw [← List.getElem?_map, ← List.getElem?_map, e]
    cases hs : ss[q.1.toNat]? with
    | none =>
     rw [hs] at g
     cases hu : uu[q.1.toNat]? with
     | none => exact ⟨rfl, e⟩
     | some u => rw [hu] at g; cases g
    | some s =>
     rw [hs] at g
     cases hu : uu[q.1.toNat]? with
     | none => rw [hu] at g; cases g
     | some u =>
      rw [hu] at g
      have g : s.2.2 = u.2.2 := by simpa using g
      simp only
      rw [g]
      exact ⟨rfl, by rw [List.map_set, List.map_set, e]⟩
  obtain ⟨h1, h2⟩ := ansL_same (qs := qs) one.2
  simp only [ansL]
  exact ⟨by rw [one.1, h1], h2⟩
end Gs
namespace Gs
open Go Gx
def encO1 (b : Bool) : Value := .bool b
theorem Row.ldO {h : AHeap} {s : Slc} {xs : List Bool} (R : Row encO1 h s xs) {i : Nat} {x : Bool} (hx : xs[i]? = some x) : ∃ q, idxL 1 s (i : Int) = some q ∧ Gx.ldB q h = some x := by
 obtain ⟨q, h1, h2, _⟩ := R.rd hx
 exact ⟨q, h1, by simp [Gx.ldB, h2, encO1, decB]⟩
section
variable {k : Nat} {D : CallF}
theorem turns_l3 (bot) {h0 : AHeap} {a b t y l : Slc} {n2 i2 : Int} {qs : List Rq} (R : RowW 4 encQ h0 l qs) (hq : qs.length ≤ 1000) {Q : Bool × AHeap → Prop} (hQ : ∀ h, Q (true, h)) {J : Slc → Slc → Slc → Slc → Int → Int → AHeap → Option (Bool × AHeap)} (hJ : ∀ h, Keeps h0 h → Gx.Wp (J a b t y n2 i2 h) Q) :
  ∀ (d i : Nat) (h : AHeap), i + d = qs.length → Keeps h0 h → Gx.Wp (iterK bot (d + 1) (law08_PortTurns_l3b k D J) a b t y n2 i2 l (qs.length : Int) (i : Int) h) Q := fun d => by
 induction d with
 | zero =>
  intro i h hd kp
  rw [iterK_s]; simp only [law08_PortTurns_l3b]
  exact Gx.Wp.ifn (by simp; omega) (hJ h kp)
 | succ d ih =>
  intro i h hd kp
  rw [iterK_s]; simp only [law08_PortTurns_l3b]
  obtain ⟨q, hqi⟩ := isome (l := qs) (i := i) (by omega)
  obtain ⟨p, b1, b2, _, _⟩ := (R.keeps kp).ld encQ_len (by decide) hqi
  refine Gx.Wp.ifp (by simp; omega) (Gx.Wp.bnd b1 (Gx.Wp.bnd b2 (Gx.Wp.bnd rfl (Gx.Wp.new fun H1 k1 n1 g1 => ?_))))
  refine Gx.Wp.stL (sp := none) g1 rfl rfl rfl (by decide) fun H2 c2 n2 g2 => ?_
  have k2 : Keeps h H2 := Chg.beh (T := (· = h.next)) k1 c2 fun y hy q => by omega
  refine Gx.Wp.bnd (ldS_at g2 rfl) ?_
  by_cases c : (q.2.2.2.size : Int) > 500
  ·exact Gx.Wp.ifp (by simpa using c) (Gx.Wp.of (hQ _))
  ·refine Gx.Wp.ifn (by simpa using c) ?_
   rw [Gx.w1 (by omega)]
   exact ih (i + 1) H2 (by omega) (kp.trans k2)
theorem turns_l2 (hk : 2000 < k) (bot) {h0 : AHeap} {a b t : Slc} {yb : Nat} {sp : Option Nat} {qa qb : List Rq} (Ra : RowW 4 encQ h0 a qa) (Rb : RowW 4 encQ h0 b qb) (hqa : qa.length ≤ 1000) (hqb : qb.length ≤ 1000) {e : TypeId} (gy : h0.get yb = some (.cells [.slice a.a a.len a.cap, .slice b.a b.len b.cap] e true 0)) (ly : yb < h0.next)
  {Q : Bool × AHeap → Prop} (hQ : ∀ h, Q (true, h)) {J : Slc → Slc → Slc → AHeap → Option (Bool × AHeap)} (hJ : ∀ h, Keeps h0 h → Gx.Wp (J a b t h) Q) :
  Gx.Wp (iterK bot 3 (law08_PortTurns_l2b k D J) a b t ⟨some ⟨yb, 0, sp⟩, 2, 2⟩ 2 0 h0) Q := by
 have one : ∀ {l : Slc} {qs : List Rq} {h : AHeap} {j156 : Slc → Slc → Slc → Slc → Int → Int → AHeap → Option (Bool × AHeap)} {i2 : Int}, Keeps h0 h → RowW 4 encQ h l qs → qs.length ≤ 1000 → (∀ h', Keeps h h' → Gx.Wp (j156 a b t ⟨some ⟨yb, 0, sp⟩, 2, 2⟩ 2 i2 h') Q) →
   Gx.Wp (law08_PortTurns_l3 k D j156 a b t ⟨some ⟨yb, 0, sp⟩, 2, 2⟩ 2 i2 ⟨l.a, l.len, l.cap⟩ (((⟨l.a, l.len, l.cap⟩ : Slc).len : Nat) : Int) 0 h) Q := by
  intro l qs h j156 i2 kp R hq hj
  unfold law08_PortTurns_l3
  obtain ⟨bot', eb⟩ := iterK_of (fun _ _ _ _ _ _ _ _ _ _ => none) (law08_PortTurns_l3b k D j156) (show qs.length + 1 ≤ k by omega)
  rw [eb]
  have : (⟨l.a, l.len, l.cap⟩ : Slc).len = qs.length := R.len
  rw [this]
  exact turns_l3 (l := ⟨l.a, qs.length, l.cap⟩) (D := D) bot' (by rw [← this]; exact R) hq hQ hj qs.length 0 h (by simp) (.refl _ _)
 rw [iterK_s]; simp only [law08_PortTurns_l2b]
 have i0 : Gx.idxL 1 (⟨some ⟨yb, 0, sp⟩, 2, 2⟩ : Slc) 0 = some ⟨yb, 0, none⟩ := rfl
 have i1 : Gx.idxL 1 (⟨some ⟨yb, 0, sp⟩, 2, 2⟩ : Slc) (IntKind.wrap .i64 (0 + 1)) = some ⟨yb, 1, none⟩ := rfl
 refine Gx.Wp.ifp (by decide) (Gx.Wp.jn fun j hj => Gx.Wp.bnd i0 (Gx.Wp.bnd (sldL_at gy rfl) (one (.refl _ _) Ra hqa fun h1 k1 => ?_)))
 subst hj
 rw [iterK_s]; simp only [law08_PortTurns_l2b]
 refine Gx.Wp.ifp (by decide) (Gx.Wp.jn fun j hj => Gx.Wp.bnd i1 (Gx.Wp.bnd (sldL_at (k1.got ly gy) rfl) (one k1 (Rb.keeps k1) hqb fun h2 k2 => ?_)))
 subst hj
 rw [iterK_s]; simp only [law08_PortTurns_l2b]
 exact Gx.Wp.ifn (by decide) (hJ h2 (k1.trans k2))
end
end Gs
namespace Gs
open Go Gx
theorem turns_l1 {k n : Nat} (hn : 4 ≤ n) (hk : 100000 < k) (bot) {a b t s tt u : Slc} {al : Option Addr} {qa qb : List Rq} {sa sb : List Sb} {ja jb m0 : Nat} {bs : List Bool} {h0 : AHeap} {Oa0 Ob0 : Nat → Prop} (hqa : qa.length ≤ 40) (hqb : qb.length ≤ 40) (hna : ∀ q ∈ qa, NameOk k q) (hnb : ∀ q ∈ qb, NameOk k q)
  (Rt : Row encO1 h0 t bs) (ht : ∀ x, t.a = some x → x.block < m0) (lowa : ∀ y, TF Oa0 ja sa s y → m0 ≤ y) (lowb : ∀ y, TF Ob0 jb sb tt y → m0 ≤ y)
  {Q : Bool × AHeap → Prop} {J : Slc → Slc → Slc → Slc → Option Addr → Option Addr → Option Addr → AHeap → Option (Bool × AHeap)}
  (hJ : ∀ h Oa Ob, TJ k qa sa ja s qa.length Oa h → TJ k qb sb jb tt qb.length Ob h → Chg (fun y => TF Oa0 ja sa s y ∨ TF Ob0 jb sb tt y) h0 h → Gx.Wp (J a b s u (some ⟨ja, 0, none⟩) (some ⟨jb, 0, none⟩) al h) Q) :
  ∀ (d ia ib i : Nat) (h : AHeap) (Oa Ob : Nat → Prop), ia + ib + d = qa.length + qb.length → ia ≤ qa.length → ib ≤ qb.length → i + d ≤ 80 → TJ k qa sa ja s ia Oa h → TJ k qb sb jb tt ib Ob h → (∀ y, TF Oa ja sa s y → ¬ TF Ob jb sb tt y) →
   (∀ y, TF Oa ja sa s y → TF Oa0 ja sa s y ∨ h0.next ≤ y) → (∀ y, TF Ob jb sb tt y → TF Ob0 jb sb tt y ∨ h0.next ≤ y) → Chg (fun y => TF Oa0 ja sa s y ∨ TF Ob0 jb sb tt y) h0 h →
   Gx.Wp (iterK bot (d + 1) (law08_PortTurns_l1b k (lvl k n) J) a b t s tt u (some ⟨ja, 0, none⟩) (some ⟨jb, 0, none⟩) al (i : Int) h) Q := fun d => by
 induction d with
 | zero =>
  intro ia ib i h Oa Ob hd ha hb hi Ja Jb dis fa fb c
  obtain rfl : ia = qa.length := by omega
  obtain rfl : ib = qb.length := by omega
  rw [iterK_s]; simp only [law08_PortTurns_l1b]
  refine Gx.Wp.jn fun j92 h92 => Gx.Wp.bnd (Over_P _ Ja.j) ?_
  rw [jobAt_over (Nat.le_refl _), decide_eq_true rfl]
  refine Gx.Wp.ifn (fun z => by cases z) (Gx.Wp.bnd (Over_P _ Jb.j) ?_)
  rw [jobAt_over (Nat.le_refl _), decide_eq_true rfl]
  subst h92
  exact Gx.Wp.ifn (fun z => by cases z) (hJ h Oa Ob Ja Jb c)
 | succ d ih =>
  intro ia ib i h Oa Ob hd ha hb hi Ja Jb dis fa fb c
  rw [iterK_s]; simp only [law08_PortTurns_l1b]
  have ova := jobAt_over (qs := qa) (ss := sa) ha
  have ovb := jobAt_over (qs := qb) (ss := sb) hb
  have nx := c.nx
  refine Gx.Wp.jn fun j92 h92 => ?_
  have main : Gx.Wp (j92 a b t s tt u (some ⟨ja, 0, none⟩) (some ⟨jb, 0, none⟩) al (i : Int) true h) Q := by
   subst h92
   refine Gx.Wp.ifp rfl (Gx.Wp.jn fun j105 h105 => ?_)
   have gA : ia < qa.length → Gx.Wp (j105 a b t s tt u (some ⟨ja, 0, none⟩) (some ⟨jb, 0, none⟩) al (i : Int) true h) Q := by
    intro hlt
    subst h105
    refine Gx.Wp.jn fun j119 h119 => Gx.Wp.ifp rfl ?_
    subst h119
    refine Gx.Wp.call (Ja.run hn hk hlt (by omega) hna) fun z hz => ?_
    obtain ⟨O', v, J', cz, fz⟩ := hz
    have nz := cz.nx
    refine Gx.Wp.jn fun j133 h133 => ?_
    rw [v]
    have go : Gx.Wp (j133 a b t s tt u (some ⟨ja, 0, none⟩) (some ⟨jb, 0, none⟩) al (i : Int) false z.2) Q := by
     subst h133
     refine Gx.Wp.ifn (fun z => by cases z) ?_
     rw [Gx.w1 (by omega)]
     refine ih (ia + 1) ib (i + 1) z.2 O' Ob (by omega) (by omega) hb (by omega) J' (Jb.chg cz fun y hy w => dis y w hy) (fun y hy w => ?_) (fun y hy => ?_) fb (Chg.beh c cz fun y hy w => ?_)
     ·rcases fz y hy with q | q
      ·exact dis y q w
      ·have := Jb.lt y w; omega
     ·rcases fz y hy with q | q
      ·exact fa y q
      ·exact .inr (by omega)
     ·exact (fa y w).imp id (fun q => by omega)
    refine Gx.Wp.ifn (by simp) ?_
    by_cases ce : ia + 1 = qa.length
    ·refine Gx.Wp.ifn (by simp [ce]) go
    ·refine Gx.Wp.ifp (by simp [ce]) ?_
     simp only [if_neg ce]
     exact go
   have gB : ib < qb.length → Gx.Wp (j105 a b t s tt u (some ⟨ja, 0, none⟩) (some ⟨jb, 0, none⟩) al (i : Int) false h) Q := by
    intro hlt
    subst h105
    refine Gx.Wp.jn fun j119 h119 => Gx.Wp.ifn (fun z => by cases z) ?_
    subst h119
    refine Gx.Wp.call (Jb.run hn hk hlt (by omega) hnb) fun z hz => ?_
    obtain ⟨O', v, J', cz, fz⟩ := hz
    have nz := cz.nx
    refine Gx.Wp.jn fun j133 h133 => ?_
    rw [v]
    have go : Gx.Wp (j133 a b t s tt u (some ⟨ja, 0, none⟩) (some ⟨jb, 0, none⟩) al (i : Int) false z.2) Q := by
     subst h133
     refine Gx.Wp.ifn (fun z => by cases z) ?_
     rw [Gx.w1 (by omega)]
     refine ih ia (ib + 1) (i + 1) z.2 Oa O' (by omega) ha (by omega) (by omega) (Ja.chg cz fun y hy w => dis y hy w) J' (fun y hy w => ?_) fa (fun y hy => ?_) (Chg.beh c cz fun y hy w => ?_)
     ·rcases fz y w with q | q
      ·exact dis y hy q
      ·have := Ja.lt y hy; omega
     ·rcases fz y hy with q | q
      ·exact fb y q
      ·exact .inr (by omega)
     ·exact .inr ((fb y w).elim id (fun q => by omega))
    refine Gx.Wp.ifn (by simp) ?_
    by_cases ce : ib + 1 = qb.length
    ·refine Gx.Wp.ifn (by simp [ce]) go
    ·refine Gx.Wp.ifp (by simp [ce]) ?_
     simp only [if_neg ce]
     exact go
   refine Gx.Wp.bnd (Over_P _ Jb.j) ?_
   rw [ovb]
   by_cases cb : ib = qb.length
   ·exact Gx.Wp.ifp (by simpa using cb) (gA (by omega))
   ·refine Gx.Wp.ifn (by simpa using cb) (Gx.Wp.bnd (Over_P _ Ja.j) ?_)
    rw [ova]
    by_cases ca : ia = qa.length
    ·exact Gx.Wp.ifn (by simpa using ca) (gB (by omega))
    ·refine Gx.Wp.ifp (by simpa using ca) ?_
     by_cases ct : i < bs.length
     ·obtain ⟨x, hx⟩ := isome ct
      obtain ⟨p, p1, p2⟩ := Row.ldO (Row.chg Rt c fun x hx w => by
       have := ht x hx
       rcases w with w | w
       ·have := lowa _ w; omega
       ·have := lowb _ w; omega) hx
      refine Gx.Wp.ifp (by rw [Rt.1]; simpa using ct) (Gx.Wp.bnd p1 (Gx.Wp.bnd p2 ?_))
      cases x with
      | true => exact gA (by omega)
      | false => exact gB (by omega)
     ·exact Gx.Wp.ifn (by rw [Rt.1]; simpa using ct) (gB (by omega))
  refine Gx.Wp.bnd (Over_P _ Ja.j) ?_
  rw [ova]
  by_cases ca : ia = qa.length
  ·refine Gx.Wp.ifn (by simpa using ca) (Gx.Wp.bnd (Over_P _ Jb.j) ?_)
   rw [ovb, decide_eq_false (by omega)]
   exact main
  ·exact Gx.Wp.ifp (by simpa using ca) main
theorem turns_l0 {k : Nat} {D : CallF} (bot) {s u : Slc} {ss uu : List Sb} {m m' : Nat} (he : ss.map (·.2.2) = uu.map (·.2.2)) (hm : m ≤ 100000) (hk : 200000 < k) (hl : ss.length ≤ 100)
  {Q : Bool × AHeap → Prop} {J : AHeap → Option (Bool × AHeap)} (hJ : ∀ h, Gx.Wp (J h) Q) :
  ∀ (d i : Nat) (h : AHeap), i + d = ss.length → Sts h s m ss → Sts h u m' uu → Gx.Wp (iterK bot (d + 1) (law08_PortTurns_l0b k D J) s u (ss.length : Int) (i : Int) h) Q := fun d => by
 induction d with
 | zero =>
  intro i h hd S U
  rw [iterK_s]; simp only [law08_PortTurns_l0b]
  exact Gx.Wp.ifn (by simp; omega) (hJ h)
 | succ d ih =>
  intro i h hd S U
  rw [iterK_s]; simp only [law08_PortTurns_l0b]
  have len : ss.length = uu.length := by simpa using congrArg List.length he
  obtain ⟨x, hx⟩ := isome (l := ss) (i := i) (by omega)
  obtain ⟨y, hy⟩ := isome (l := uu) (i := i) (by omega)
  have exy : x.2.2 = y.2.2 := by
   have : (ss.map (·.2.2))[i]? = (uu.map (·.2.2))[i]? := by rw [he]
   simpa [List.getElem?_map, hx, hy] using this
  obtain ⟨qx, x1, x2, _⟩ := S.rd.rd hx
  obtain ⟨qy, y1, y2, _⟩ := U.rd.rd hy
  have lx : Gx.ldP qx h = some (some ⟨x.1, 0, none⟩) := by simp only [Gx.ldP, x2]; rfl
  have ly0 : Gx.ldP qy h = some (some ⟨y.1, 0, none⟩) := by simp only [Gx.ldP, y2]; rfl
  obtain ⟨Sx, Bx⟩ := S.st i x hx
  obtain ⟨Sy, By⟩ := U.st i y hy
  have b1 := Bx.l
  have b2 : y.2.2.es.length ≤ m := by rw [← exy]; exact b1
  refine Gx.Wp.ifp (by simp; omega) (Gx.Wp.bnd x1 (Gx.Wp.bnd lx (Gx.Wp.call (Names_spec D Sx Bx.g (by omega)) fun r56 q56 => ?_)))
  obtain ⟨k1, A1⟩ := q56
  have U1 := U.keeps k1
  have ly : Gx.ldP qy r56.2 = some (some ⟨y.1, 0, none⟩) := by
   obtain ⟨qy', y1', y2', _⟩ := U1.rd.rd hy
   rw [y1] at y1'; cases y1'
   simp only [Gx.ldP, y2']; rfl
  refine Gx.Wp.bnd y1 (Gx.Wp.bnd ly (Gx.Wp.gp (ssw1 (bnd ly0 rfl)) (Gx.Wp.call (Names_spec D (U1.st i y hy).1 By.g (by omega)) fun r61 q61 => ?_)))
  obtain ⟨k2, A2⟩ := q61
  rw [← exy] at A2
  have ln : (nm x.2.2.es).length ≤ 100000 := by rw [nm_len]; omega
  refine Gx.Wp.bnd (sameS_spec D (A1.keeps k2).row A2.row (by omega) (by omega)) (Gx.Wp.ifn (fun z => by cases z) ?_)
  rw [Gx.w1 (by omega)]
  exact ih (i + 1) _ (by omega) ((S.keeps k1).keeps k2) (U1.keeps k2)
end Gs
namespace Gs
open Go Gx
theorem ansS_es (ss : List Sb) (q : Rq) {m : Nat} (h : ∀ s ∈ ss, s.2.2.es.length ≤ m) : (∀ s ∈ (ansS ss q).1, s.2.2.es.length ≤ m + 1) ∧ (ansS ss q).2.2.2.length ≤ m := by
 unfold ansS
 split
 ·exact ⟨fun s hs => Nat.le_succ_of_le (h s hs), Nat.zero_le _⟩
 ·split
  ·exact ⟨fun s hs => Nat.le_succ_of_le (h s hs), Nat.zero_le _⟩
  ·rename_i x hx
   have hm := h x (mem_of hx)
   refine ⟨fun s hs => ?_, Nat.le_trans (do_names _ _ _ _) hm⟩
   rcases List.mem_or_eq_of_mem_set hs with hs | rfl
   ·exact Nat.le_succ_of_le (h s hs)
   ·have := (do_len x.2.2 q.2.1 q.2.2.1 q.2.2.2).1
    show (x.2.2.doS q.2.1 q.2.2.1 q.2.2.2).1.es.length ≤ _
    omega
theorem ids_ansL : ∀ (qs : List Rq) (ss : List Sb) (m : Nat), (∀ s ∈ ss, s.2.2.es.length ≤ m) → m + qs.length ≤ 10000 → idsL (ansL qs ss).2 ≤ qs.length * 10000
 | [], _, _, _, _ => Nat.le_refl _
 | q :: qs, ss, m, h, hm => by
  obtain ⟨h1, h2⟩ := ansS_es ss q h
  simp only [List.length_cons] at hm ⊢
  have := ids_ansL qs _ (m + 1) h1 (by omega)
  simp only [ansL, idsL]; omega
theorem Mk.maps {base q : Nat} {h : AHeap} {s r : Slc} {ss : List Sb} {ts : List Tb} (M : Mk base q h s r ss ts) : ss.map (·.2.2) = List.replicate ss.length (ps0 q) :=
 List.eq_replicate_of_mem (fun x hx => by
  obtain ⟨t, ht, rfl⟩ := List.mem_map.1 hx
  exact (M.sr t ht).2.1) |> fun e => by rw [List.length_map] at e; exact e
theorem Mk.es {base q : Nat} {h : AHeap} {s r : Slc} {ss : List Sb} {ts : List Tb} (M : Mk base q h s r ss ts) : ∀ t ∈ ss, t.2.2.es.length ≤ 0 := fun t ht => by rw [(M.sr t ht).2.1]; exact Nat.le_refl _
theorem turns_ok {k : Nat} (hk : 10000000 ≤ k) {h : AHeap} {a b t : Slc} {qa qb : List Rq} {bs : List Bool} (Ra : RowW 4 encQ h a qa) (Rb : RowW 4 encQ h b qb) (Rt : Row encO1 h t bs) (ht : ∀ x, t.a = some x → x.block < h.next) (hna : ∀ q ∈ qa, NameOk k q) (hnb : ∀ q ∈ qb, NameOk k q) :
  Gx.Wp (law08_PortTurns k (DD k) a b t h) fun z => z.1 = true := by
 simp only [law08_PortTurns, DD]
 refine Gx.Wp.call (works8P (by omega) (by omega)) fun w hw => ?_
 obtain ⟨w1, kw⟩ := hw
 rw [w1]
 refine Gx.Wp.ifn (fun z => by cases z) (Gx.Wp.jn fun j7 h7 => ?_)
 have la : a.len = qa.length := Ra.len
 have lb : b.len = qb.length := Rb.len
 subst h7
 by_cases ca : 40 < qa.length
 ·exact Gx.Wp.ifp (by rw [la]; simp; omega) (Gx.Wp.ifp rfl (Gx.Wp.of rfl))
 refine Gx.Wp.ifn (by rw [la]; simp; omega) ?_
 by_cases cb : 40 < qb.length
 ·exact Gx.Wp.ifp (by rw [lb]; simp; omega) (Gx.Wp.of rfl)
 refine Gx.Wp.ifn (by rw [lb]; simp; omega) (Gx.Wp.jn fun j12 h12 => Gx.Wp.new fun H1 k1 n1 g1 => ?_)
 unfold law08_PortTurns_l2
 obtain ⟨bot, eb⟩ := iterK_of (fun _ _ _ _ _ _ _ => none) (law08_PortTurns_l2b k (lvl k 60) j12) (show 3 ≤ k by omega)
 rw [eb]
 refine turns_l2 (by omega) bot ((Ra.keeps kw).keeps k1) ((Rb.keeps kw).keeps k1) (by omega) (by omega) g1 (by omega) (fun _ => rfl) fun H2 k2 => ?_
 subst h12
 have kA : Keeps h H2 := (kw.trans k1).trans k2
 refine Gx.Wp.call (both_spec (lvl k 60) (by omega)) fun r13 q13 => ?_
 obtain ⟨ss, ts, M1, k13, l13⟩ := q13
 refine Gx.Wp.call (both_spec (lvl k 60) (by omega)) fun r14 q14 => ?_
 obtain ⟨st, tt, M2, k14, l14⟩ := q14
 refine Gx.Wp.call (both_spec (lvl k 60) (by omega)) fun r15 q15 => ?_
 obtain ⟨su, tu, M3, k15, l15⟩ := q15
 have k13' := (kA.trans k13).trans (k14.trans k15)
 refine Gx.Wp.call (List_P (n := 60) (by decide) (Ra.keeps k13') (by omega) (by omega)) fun r16 q16 => ?_
 obtain ⟨jx, Ox, e16, k16, Jx, gx, hx⟩ := q16
 refine Gx.Wp.call (List_P (n := 60) (by decide) ((Rb.keeps k13').keeps k16) (by omega) (by omega)) fun r17 q17 => ?_
 obtain ⟨jy, Oy, e17, k17, Jy, gy, hy⟩ := q17
 refine Gx.Wp.call (List_P (n := 60) (by decide) (((Ra.keeps k13').keeps k16).keeps k17) (by omega) (by omega)) fun r18 q18 => ?_
 obtain ⟨jl, Ol, e18, k18, Jl, gl, hl⟩ := q18
 rw [e16, e17, e18]
 refine Gx.Wp.jn fun j30 h30 => Gx.Wp.ifn (fun z => by cases z) (Gx.Wp.ifn (fun z => by cases z) ?_)
 subst h30
 have nA := kA.nx
 have m13 := k13.nx
 have m14 := k14.nx
 have m15 := k15.nx
 have m16 := k16.nx
 have m17 := k17.nx
 have m18 := k18.nx
 have Tx0 := TJ.begin M1 (by decide) Jx ((k14.trans k15).trans k16) (fun y o => by have := gx y o; omega) (by omega)
 have Ty0 := TJ.begin M2 (by decide) Jy ((k15.trans k16).trans k17) (fun y o => by have := gy y o; omega) (by omega)
 have Tx1 := Tx0.chg (k17.trans k18) fun y _ f => f
 have Ty1 := Ty0.chg k18 fun y _ f => f
 have bx : ∀ {y}, TF Ox jx ss r13.1.1 y → (r15.2.next ≤ y ∧ y < r16.2.next) ∨ (H2.next ≤ y ∧ y < r13.2.next) := fun {y} z => by
  rcases TF_below M1 z with (z | rfl) | z
  ·exact .inl ⟨gx y z, Jx.lt y z⟩
  ·exact .inl ⟨hx, Jx.lj⟩
  ·exact .inr z
 have by' : ∀ {y}, TF Oy jy st r14.1.1 y → (r16.2.next ≤ y ∧ y < r17.2.next) ∨ (r13.2.next ≤ y ∧ y < r14.2.next) := fun {y} z => by
  rcases TF_below M2 z with (z | rfl) | z
  ·exact .inl ⟨gy y z, Jy.lt y z⟩
  ·exact .inl ⟨hy, Jy.lj⟩
  ·exact .inr z
 obtain ⟨p', RR', ov, rs⟩ := run_list (k := k) qa 1000 su hna
 rw [show min 1000 qa.length = qa.length by omega] at RR' ov rs
 rw [List.take_length] at RR' rs
 rw [if_pos (Nat.le_refl _)] at rs
 rw [decide_eq_true (Nat.le_refl _)] at ov
 have jll := Jl.lj
 refine Gx.Wp.ifn (fun z => by cases z) (Gx.Wp.call (Run_P (L := lvl k) (N := 4) (n := 60) (by decide) RR' Jl ((M3.sts (by decide)).keeps ((k16.trans k17).trans k18)) (fun y hy => ?_) (fun x hx => ?_) (by omega) (by omega) (by omega)) fun r31 q31 => ?_)
 ·have := M3.sset hy
  exact ⟨by omega, fun z => z.elim (fun z => by have := gl y z; omega) fun z => by omega⟩
 ·have := M3.ls hx
  exact ⟨by omega, fun z => z.elim (fun z => by have := gl _ z; omega) fun z => by omega⟩
 obtain ⟨Ol', v, Jl', sub, far, sset, Tu, c31⟩ := q31
 rw [v, ov]
 refine Gx.Wp.ifn (fun z => by cases z) (Gx.Wp.jn fun j40 h40 => ?_)
 have apl : ∀ {y}, (SSet su y ∨ Ol y) → (r14.2.next ≤ y ∧ y < r15.2.next) ∨ r17.2.next ≤ y := fun {y} z => z.elim (fun z => .inl (M3.sset z)) fun z => .inr (gl y z)
 have Tx := Tx1.chg c31 fun y z w => by
  have h1 := bx z
  have h2 := apl w
  omega
 have Ty := Ty1.chg c31 fun y z w => by
  have h1 := by' z
  have h2 := apl w
  omega
 have n31 := c31.nx
 unfold law08_PortTurns_l1
 obtain ⟨bot1, eb1⟩ := iterK_of (fun _ _ _ _ _ _ _ _ _ _ _ => none) (law08_PortTurns_l1b k (lvl k 60) j40) (show (qa.length + qb.length) + 1 ≤ k by omega)
 rw [eb1]
 have kall : Keeps h r18.2 := (k13'.trans k16).trans (k17.trans k18)
 have Rt31 : Row encO1 r31.2 t bs := Row.chg (Row.keeps Rt kall) c31 fun x hx w => by
  have := ht x hx
  have := apl w
  omega
 refine turns_l1 (n := 60) (by decide) (by omega) bot1 (m0 := h.next) (h0 := r31.2) (by omega) (by omega) hna hnb Rt31 ht (fun y z => by have := bx z; omega) (fun y z => by have := by' z; omega) (fun hE Oa Ob TA TB cE => ?_) _ 0 0 0 r31.2 Ox Oy (by omega) (by omega) (by omega) (by omega) Tx Ty (fun y z w => by
   have h1 := bx z
   have h2 := by' w
   omega) (fun y z => .inl z) (fun y z => .inl z) (Chg.refl _ _)
 subst h40
 have FFb : ∀ {y}, (TF Ox jx ss r13.1.1 y ∨ TF Oy jy st r14.1.1 y) → (y < r14.2.next) ∨ (r15.2.next ≤ y ∧ y < r17.2.next) := fun {y} z => by
  rcases z with z | z
  ·have := bx z; omega
  ·have := by' z; omega
 have JlE := Jl'.chg cE fun y hy z => by
  have q : r17.2.next ≤ y := by
   rcases hy with hy | rfl
   ·rcases far y hy with z | z
    ·exact gl y z
    ·omega
   ·exact hl
  have := FFb z
  omega
 have suS : ∀ y, SSet (ansL qa su).1 y ↔ SSet su y := fun y => ansL_set y _ _
 have TuE := Tu.chg cE (fun y hy z => by
  have := M3.sset ((suS y).1 hy)
  have := FFb z
  omega) fun x hx z => by
  have := M3.ls hx
  have := FFb z
  omega
 have same := ansL_same (qs := qa) (ss := ss) (uu := su) (by rw [M1.maps, M3.maps, l13, l15])
 have idx := ids_ansL qa ss 0 M1.es (by omega)
 have idu := ids_ansL qa su 0 M3.es (by omega)
 have lx := ansL_len qa ss
 have lu := ansL_len qa su
 have resx := jobAt_res qa ss
 have bz : (Rz.of (ansL qa ss).2).ids.length ≤ 400000 ∧ (Rz.of (ansL qa ss).2).texts.length ≤ 40 := ⟨by rw [zof_ids]; omega, by rw [zof_texts, List.length_map]; omega⟩
 have bu : (Rz.of (ansL qa su).2).ids.length ≤ 400000 ∧ (Rz.of (ansL qa su).2).texts.length ≤ 40 := ⟨by rw [zof_ids]; omega, by rw [zof_texts, List.length_map]; omega⟩
 refine Gx.Wp.jn fun j45 h45 => Gx.Wp.call (Result_P _ TA.j (by rw [resx]; omega) (by rw [resx]; omega)) fun r63 q63 => ?_
 obtain ⟨k63, o63⟩ := q63
 refine Gx.Wp.call (Result_P _ (JlE.chg k63 fun _ _ f => f) (by rw [rs]; omega) (by rw [rs]; omega)) fun r64 q64 => ?_
 obtain ⟨k64, o64⟩ := q64
 rw [resx] at o63
 rw [rs, ← same.1] at o64
 refine Gx.Wp.call (sameRes_spec (lvl k 60) (o63.keeps k64) o64 (by omega) (by omega) (by omega) (by omega)) fun r65 q65 => ?_
 obtain ⟨v65, k65⟩ := q65
 rw [v65]
 have kE : Keeps hE r65.2 := (k63.trans k64).trans k65
 refine Gx.Wp.ifn (fun z => by cases z) (Gx.Wp.bnd (Steps_P _ (TA.j.chg kE fun _ _ f => f)) (Gx.Wp.ifn (by rw [la]; simp) (Gx.Wp.bnd (Steps_P _ (TB.j.chg kE fun _ _ f => f)) ?_)))
 subst h45
 refine Gx.Wp.ifn (by rw [lb]; simp) (Gx.Wp.jn fun j47 h47 => ?_)
 unfold law08_PortTurns_l0
 have TAs := TA.s.keeps kE
 rw [List.take_length] at TAs
 have l3 : (ansL qa ss).1.length = 3 := by rw [ansL_ss]; exact l13
 have s3 : r13.1.1.len = (ansL qa ss).1.length := TAs.rd.1
 obtain ⟨bot0, eb0⟩ := iterK_of (fun _ _ _ _ _ => none) (law08_PortTurns_l0b k (lvl k 60) j47) (show (ansL qa ss).1.length + 1 ≤ k by omega)
 rw [eb0, s3]
 subst h47
 have fin := turns_l0 (k := k) (D := lvl k 60) bot0 (s := r13.1.1) (u := r15.1.1) (ss := (ansL qa ss).1) (uu := (ansL qa su).1) (m := qa.length) (m' := 0 + qa.length) (Q := fun z => z.1 = true) (J := fun h46 => some (true, h46)) same.2 (by omega) (by omega) (by omega) (fun hh => Gx.Wp.of rfl) (ansL qa ss).1.length 0 r65.2 (by omega) TAs (TuE.keeps kE)
 exact fin
theorem bool_row {h : AHeap} {s : Slc} {l : List Bool} (R : Gx.Rep h (.list .bool) l [.slice s.a s.len s.cap]) : Row encO1 h s l := by
 obtain ⟨sl, e, hlen, hb, hx⟩ := R
 simp at e
 obtain ⟨e1, e2, e3⟩ := e
 refine ⟨by omega, fun i x hi => ?_⟩
 obtain ⟨a, c, e, r, fz, cx, h1, h2, h3, h4, h5⟩ := hx i x hi
 have h5 : cx = [.bool x] := h5
 subst h5
 have := h4 0 (.bool x) rfl
 refine ⟨a, c, e, r, fz, by rw [e1]; exact h1, hb a h1, h2, ?_⟩
 simpa [DT.w, encO1] using this
theorem turns_rep {k : Nat} {l0 l1 : List reqT.V} {l2 : List Bool} (hk : needR l0 + needR l1 ≤ k) {h : AHeap} {s0 s1 s2 : Slc} (R0 : Gx.Rep h (.list reqT) l0 [.slice s0.a s0.len s0.cap]) (R1 : Gx.Rep h (.list reqT) l1 [.slice s1.a s1.len s1.cap]) (R2 : Gx.Rep h (.list .bool) l2 [.slice s2.a s2.len s2.cap]) :
  ∃ h', law08_PortTurns k (DD k) s0 s1 s2 h = some (true, h') := by
 have sz : ∀ {l : List reqT.V} {s : Slc}, Gx.Rep h (.list reqT) l [.slice s.a s.len s.cap] → ∀ q ∈ l.map reqV, q.2.2.1.size ≤ 9223372036854775807 := fun R x hx => by
  obtain ⟨y, hy, rfl⟩ := List.mem_map.1 hx
  obtain ⟨cs, hr⟩ := R.each y hy
  exact (req_enc hr).2
 obtain ⟨a0, b0, c0⟩ := needQ_ok (k := k) (qs := l0.map reqV) (by show needR l0 ≤ k; omega) (sz R0)
 obtain ⟨a1, b1, c1⟩ := needQ_ok (k := k) (qs := l1.map reqV) (by show needR l1 ≤ k; omega) (sz R1)
 obtain ⟨⟨r, h'⟩, e, q⟩ := turns_ok a0 (R0.rowW fun x cs hr => (req_enc hr).1) (R1.rowW fun x cs hr => (req_enc hr).1) (bool_row R2) R2.lt c0 c1
 obtain rfl : r = true := q
 exact ⟨h', e⟩
end Gs
