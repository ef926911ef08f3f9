import Derived.Test.YtgnljbdobbahkaaSp1
namespace Gc
open Go Gx
def ClipOk (q : Slc) : Prop := (q.len ≠ 0 → q.a ≠ none) ∧ (∀ a, q.a = some a → spOk a.spot 6 = true) ∧ q.len ≤ q.cap
structure PartS (base : Nat) (H : AHeap) (el pb : Nat) (ps pi o : Slc) (s : Sp) : Prop where
 blk : H.get pb = some (.cells [.slice ps.a ps.len ps.cap, .slice pi.a pi.len pi.cap] el true 0)
 R : Row encS H ps s.2.1
 S : RowW 6 itC H pi s.2.2
 A : Acc encS 9 base H o s.1
 cl : ClipOk pi
 lt : pb < H.next
 ge : base ≤ pb
 pp : ∀ a, ps.a = some a → a.block < base
 pq : ∀ a, pi.a = some a → base ≤ a.block ∧ a.block ≠ pb ∧ a.block < H.next
 po : ∀ a, o.a = some a → a.block ≠ pb
 ap : ∀ a c, pi.a = some a → o.a = some c → a.block ≠ c.block
section
variable {base pb el : Nat} {H H' : AHeap} {ps pi o : Slc} {s : Sp}
theorem PartS.keeps (P : PartS base H el pb ps pi o s) (k : Keeps H H') : PartS base H' el pb ps pi o s :=
 ⟨k.got P.lt P.blk, P.R.keeps k, P.S.keeps k, P.A.keeps k, P.cl, Nat.lt_of_lt_of_le P.lt k.nx, P.ge, P.pp, fun a ha => ⟨(P.pq a ha).1, (P.pq a ha).2.1, Nat.lt_of_lt_of_le (P.pq a ha).2.2 k.nx⟩, P.po, P.ap⟩
theorem PartS.load (P : PartS base H el pb ps pi o s) : ldA 2 ⟨pb, 0, none⟩ H = some [.slice ps.a ps.len ps.cap, .slice pi.a pi.len pi.cap] := sldA_at P.blk rfl
end
section
variable {k : Nat} {h : AHeap} {fs fi : Slc} {sup : List ByteArray} {its : List It}
theorem tooB_app {sup : List ByteArray} {its : List It} {x : It} (h : ¬ tooB sup its) (hl : its.length ≤ 1000) : tooB sup (its ++ [x]) ↔ 65536 < (textB sup (its ++ [x])).length := by
 constructor
 ·rintro (q | q | q)
  ·exact absurd (.inl q) h
  ·simp at q; omega
  ·exact q
 ·exact fun q => .inr (.inr q)
theorem split_spec (hk : 20000 ≤ k) (R : Row encS h fs sup) (S : RowW 6 itC h fi its) (hl : sup.length + its.length + 20 ≤ k) (hb : sup.length + its.length < 9000000000000000000) (hi : its.length ≤ 1000) (bf : ∀ a, fs.a = some a → a.block < h.next) :
  Gx.Wp (index_Split k (DD k) (fs, fi) h) fun z => z.1.2 = (splitR sup its).2 ∧ Row encS z.2 z.1.1 (splitR sup its).1 ∧ Keeps h z.2 := by
 simp only [index_Split]
 refine Wp.newE fun h1 e1 k1 n1 g1 => ?_
 have ld : ∀ {H : AHeap}, Keeps h1 H → ldA 2 ⟨h.next, 0, none⟩ H = some [.slice fs.a fs.len fs.cap, .slice fi.a fi.len fi.cap] := fun kk => sldA_at (kk.got (by omega) g1) rfl
 have l0 : ∀ {H : AHeap}, Keeps h1 H → ldL ⟨h.next, 0, none⟩ H = some fs := fun kk => sldL_at (kk.got (by omega) g1) rfl
 have l1 : ∀ {H : AHeap}, Keeps h1 H → ldL ⟨h.next, 1, none⟩ H = some fi := fun kk => sldL_at (kk.got (by omega) g1) rfl
 have dc : ∀ (a b : Slc), decC [.l, .l] [.slice a.a a.len a.cap, .slice b.a b.len b.cap] = some (a, b) := fun _ _ => rfl
 refine .bnd (ld (.refl _ _)) (.bnd (dc fs fi) (.call (check_file (by omega) (R.keeps k1) (S.keeps k1) hl hb) fun r4 ⟨q4, k4⟩ => ?_))
 by_cases c0 : chkF sup its = 0
 rotate_left
 ·have e : splitR sup its = ([], chkF sup its) := by unfold splitR; rw [if_neg c0]
  rw [e]
  exact .ifp (by rw [q4]; simpa using c0) (.of ⟨by rw [q4], Row.nil _ _ _ _, k1.trans k4⟩)
 have ok := (chk_zero.1 c0).1
 have k14 : Keeps h r4.2 := k1.trans k4
 refine .ifn (by rw [q4, c0]; decide) (.bnd (l0 k4) (.call (text_spec (DD k) (by omega) (R.keeps k14) (RowW.nil 6 itC r4.2 none 0) (its := []) ⟨ok.1, fun y hy => (List.not_mem_nil hy).elim⟩ (by simp; omega)) fun r6 ⟨q6, k6⟩ => ?_))
 have k16 : Keeps h r6.2 := k14.trans k6
 have k46 : Keeps h1 r6.2 := k4.trans k6
 by_cases c1 : tooB sup []
 ·have e : splitR sup its = ([], 2) := by unfold splitR; rw [if_pos c0, if_pos c1]
  rw [e]
  have : r6.1.2 = false := by
   by_cases c2 : 4096 < sup.length ∨ 4096 < ([] : List It).length
   ·rw [if_pos c2] at q6; rw [q6]
   ·rw [if_neg c2] at q6
    rw [q6]
    refine decide_eq_false fun q => ?_
    rcases c1 with z | z | z
    ·exact c2 (.inl z)
    ·exact c2 (.inr z)
    ·omega
  exact .ifp (by rw [this]; rfl) (.of ⟨rfl, Row.nil _ _ _ _, k16⟩)
 have c2 : ¬ (4096 < sup.length ∨ 4096 < ([] : List It).length) := fun q => q.elim (fun z => c1 (.inl z)) fun z => c1 (.inr (.inl z))
 have hsl : sup.length ≤ 4096 := Nat.le_of_not_lt fun z => c2 (.inl z)
 rw [if_neg c2] at q6
 have h6 : r6.1.2 = true := by rw [q6]; exact decide_eq_true (Nat.le_of_not_lt fun z => c1 (.inr (.inr z)))
 have e : splitR sup its = ((spAll sup its).1 ++ [bA (textB (spAll sup its).2.1 (spAll sup its).2.2)], 0) := by unfold splitR; rw [if_pos c0, if_neg c1]
 rw [e]
 have n16 := k16.nx
 refine .ifn (by rw [h6]; decide) (.bnd (l0 k46) (Wp.newE fun h8 e8 k8 n8 g8 => Wp.stL g8 rfl rfl rfl (by decide) fun h9 c9 n9 g9 => Gx.Wp.jn fun j13 h13 => ?_))
 have k9 : Keeps r6.2 h9 := k8.keepsS c9 fun y hy => by subst hy; omega
 have k09 : Keeps h h9 := k16.trans k9
 refine .bnd (l1 (k46.trans k9)) ?_
 unfold index_Split_l0
 obtain ⟨bot, eb⟩ := iterK_of (fun _ _ _ _ _ _ => none) (index_Split_l0b k (DD k) j13) (show its.length + 1 ≤ k by omega)
 rw [eb]
 have il : (fi.len : Int) = (its.length : Int) := by rw [S.len]
 have loop : ∀ (d i : Nat) (o ps pi : Slc) (H : AHeap), i + d = its.length → Keeps h H → h9.next ≤ H.next → PartS h.next H 25 r6.2.next ps pi o (spAll sup (its.take i)) → SpOk (spAll sup (its.take i)) i → Gx.Wp (iterK bot (d + 1) (index_Split_l0b k (DD k) j13) o (some ⟨r6.2.next, 0, none⟩) fi (fi.len : Int) (i : Int) H) fun z => z.1.2 = 0 ∧ Row encS z.2 z.1.1 ((spAll sup its).1 ++ [bA (textB (spAll sup its).2.1 (spAll sup its).2.2)]) ∧ Keeps h z.2 := fun d => by
  induction d with
  | zero =>
   intro i o ps pi H hd kp hn P hO
   rw [iterK_s]; simp only [index_Split_l0b]
   rw [List.take_of_length_le (by omega)] at P hO
   refine .ifn (by rw [il]; simp; omega) ?_
   rw [h13]
   obtain ⟨o1, o2, o3, o4⟩ := hO
   have hs1 : (spAll sup its).2.1.length ≤ 4096 := Nat.le_of_not_lt fun z => o1 (.inl z)
   refine .bnd rfl (.bnd P.load (.bnd (dc ps pi) (.call (text_spec (DD k) (by omega) P.R P.S o2 (by omega)) fun r17 ⟨q17, k17⟩ => ?_)))
   rw [if_neg (fun z => z.elim (fun z => by omega) fun z => by omega)] at q17
   refine Wp.newE fun h18 e18 k18 n18 g18 => ?_
   rw [q17] at e18
   obtain ⟨s', h9', a1, a2, A9, c9', d9⟩ := Acc.pushK (P.A.keeps k17) (fun _ => rfl) (bA (textB (spAll sup its).2.1 (spAll sup its).2.2)) (bytes := 16) e18 (by omega) (by decide) (Nat.le_trans kp.nx k17.nx)
   refine .bnd a1 (.bnd a2 (.of ⟨rfl, A9.row, (kp.trans k17).keepsS c9' fun y ⟨a, ha, e⟩ => by rw [e]; exact (P.A.lt a ha).2⟩))
  | succ d ih =>
   intro i o ps pi H hd kp hn P hO
   rw [iterK_s]; simp only [index_Split_l0b]
   obtain ⟨x, hx⟩ := isome (l := its) (i := i) (by omega)
   have okx := ok.2 x (mem_of hx)
   obtain ⟨q, b1, b2, _⟩ := (S.keeps kp).ld itC_len (by decide) hx
   have est : spAll sup (its.take (i + 1)) = spStep (spAll sup (its.take i)) x := by rw [← spAll_snoc, List.take_add_one, hx]; rfl
   have hO2 := spStep_ok hO okx
   rw [← est] at hO2
   obtain ⟨o1, o2, o3, o4⟩ := hO
   obtain ⟨sp, esp⟩ : ∃ sp, sp = spAll sup (its.take i) := ⟨_, rfl⟩
   rw [← esp] at P o1 o2 o3 o4 est
   have hs1 : sp.2.1.length ≤ 4096 := Nat.le_of_not_lt fun z => o1 (.inl z)
   have nk := kp.nx
   refine .ifp (by rw [il]; simp; omega) (.bnd b1 (.bnd b2 (.bnd (decI6 x) (Wp.newE fun h32 e32 k32 n32 g32 => Wp.stL g32 rfl rfl rfl (by decide) fun h33 c33 n33 g33 => ?_))))
   have k33 : Keeps H h33 := k32.keepsS c33 fun y hy => by subst hy; omega
   obtain ⟨h34, e34⟩ : ∃ h34, h34 = AHeap.resv h33 2 := ⟨_, rfl⟩
   rw [← e34]
   have k34 : Keeps h33 h34 := ⟨by rw [e34]; show h33.next ≤ h33.next + 2; omega, fun b hb _ => by rw [e34]; rfl⟩
   have n34 : h34.next = h33.next + 2 := by rw [e34]; rfl
   have kH34 : Keeps H h34 := k33.trans k34
   have gx34 : h34.get H.next = some (.cells (itC x) 57 true 0) := k34.got (by omega) g33
   have P34 := P.keeps kH34
   obtain ⟨h42, e42⟩ : ∃ h42, h42 = AHeap.set h34 (h33.next + 0) (.cells (itC x) 57 true 0) := ⟨_, rfl⟩
   have kH42 : Keeps H h42 := by rw [e42]; exact Keeps.set kH34 (by omega)
   have k3342 : Keeps h33 h42 := by rw [e42]; exact Keeps.set k34 (by omega)
   have n42 : h42.next = h33.next + 2 := by rw [e42]; exact n34
   have g42 : h42.get (h33.next + 0) = some (.cells (itC x) 57 true 0) := by rw [e42]; simp
   obtain ⟨c, s', h43, a1, a2, A43, k43, es'⟩ := clip_app (k := k) (D := DD k) (base := h.next) P.S kH42 (by omega) (by omega) P.cl x
   have P42 := P.keeps kH42
   have P43 := P42.keeps k43
   refine .bnd rfl (.bnd (sldL_at (o := 0 + 1) P34.blk rfl) (.bnd (a1 h34) (.bnd (sldA_at gx34 rfl) (.gp (ssw1 (by rw [sldA_at (sp := none) (n := 6) gx34 rfl]; rfl)) (.bnd (decI6 x) ?_)))))
   have e42' : AHeap.set h34 (h33.next + 0) (.cells [.string x.1, .string x.2.1, .int .i64 x.2.2.1, .int .i64 x.2.2.2.1, .int .i64 x.2.2.2.2.1, .int .i64 x.2.2.2.2.2] 57 true 0) = h42 := e42.symm
   rw [e42']
   have er : Gx.rdS 6 ⟨some ⟨h33.next + 0, 0, some 0⟩, 1, 1⟩ h42 = some (itC x) := by
    simp only [Gx.rdS]
    rw [rdL_ok g42 (by simp [itC])]
    rfl
   have n43 : h42.next < h43.next := (A43.lt _ es').1
   refine .bnd er (.bnd a2 (.bnd rfl (.bnd (sldL_at (o := 0 + 0) P43.blk rfl) (.gp (fun HH hH => ?_) ?_))))
   ·simp only [List.mem_cons, List.not_mem_nil, or_false] at hH
    dsimp only
    rcases hH with z | z | z
    ·rw [z, sldL_at (sp := none) (o := 0 + 0) P42.blk rfl]; rfl
    ·rw [z, sldL_at (sp := none) (o := 0 + 0) P34.blk rfl]; rfl
    ·rw [z, sldL_at (sp := none) (o := 0 + 0) P34.blk rfl]; rfl
   obtain ⟨h49, e49⟩ : ∃ h49, h49 = AHeap.set h43 (h33.next + 1) (.cells [.slice none 0 0, .slice none 0 0] 25 true 0) := ⟨_, rfl⟩
   rw [← e49]
   have g49 : h49.get (h33.next + 1) = some (.cells [.slice none 0 0, .slice none 0 0] 25 true 0) := by rw [e49]; simp
   have n49 : h49.next = h43.next := by rw [e49]; rfl
   have c49 : Chg (· = h33.next + 1) h43 h49 := by rw [e49]; exact Chg.set (.inr rfl)
   refine Wp.stL g49 rfl rfl rfl (by decide) fun h50 c50 n50 g50 => Gx.Wp.jn fun j58 h58 => ?_
   have c4350 : Chg (· = h33.next + 1) h43 h50 := Chg.trans c49 c50
   have kH43 : Keeps H h43 := kH42.trans k43
   have kH50 : Keeps H h50 := kH43.keepsS c4350 fun y hy => by subst hy; omega
   have P50 := P.keeps kH50
   have S50 : RowW 6 itC h50 s' (sp.2.2 ++ [x]) := (A43.row itC_len).chg c4350 fun a ha z => by rw [es'] at ha; cases ha; have z' : h42.next = h33.next + 1 := z; omega
   have okm : sizeOk sp.2.1 (sp.2.2 ++ [x]) := ⟨o2.1, fun y hy => by
    rcases List.mem_append.1 hy with g | g
    ·exact o2.2 y g
    ·rw [List.mem_singleton.1 g]; exact okx⟩
   have n4350 := c4350.nx
   refine .bnd (sldA_at g50 rfl) (.bnd (dc ps s') (.call (text_spec (DD k) (by omega) P50.R S50 okm (by simp; omega)) fun r66 ⟨q66, k66⟩ => ?_))
   rw [if_neg (fun z => z.elim (fun z => by omega) fun z => by simp at z; omega)] at q66
   have n66 := k66.nx
   have g66 := k66.got (by omega) g50
   have kH66 : Keeps H r66.2 := kH50.trans k66
   have P66 := P.keeps kH66
   have turn : ∀ (H2 : AHeap) (o2 a b : Slc) (s2 : Sp), s2 = spAll sup (its.take (i + 1)) → Keeps h H2 → h9.next ≤ H2.next → H2.get (h33.next + 1) = some (.cells [.slice a.a a.len a.cap, .slice b.a b.len b.cap] 25 true 0) → h33.next + 1 < H2.next → (∃ cc, H2.get r6.2.next = some (.cells cc 25 true 0) ∧ cc.length = 2) → Row encS H2 a s2.2.1 → RowW 6 itC H2 b s2.2.2 → Acc encS 9 h.next H2 o2 s2.1 → ClipOk b → (∀ z, a.a = some z → z.block < h.next) → (∀ z, b.a = some z → h.next ≤ z.block ∧ z.block ≠ r6.2.next ∧ z.block < H2.next) → (∀ z, o2.a = some z → z.block ≠ r6.2.next) → (∀ z c, b.a = some z → o2.a = some c → z.block ≠ c.block) → Gx.Wp (j58 o2 (some ⟨r6.2.next, 0, none⟩) (some ⟨h33.next + 1, 0, none⟩) fi (fi.len : Int) (i : Int) H2) fun z => z.1.2 = 0 ∧ Row encS z.2 z.1.1 ((spAll sup its).1 ++ [bA (textB (spAll sup its).2.1 (spAll sup its).2.2)]) ∧ Keeps h z.2 := fun H2 o2 a b s2 e2 kH2 hn2 gm hlt ⟨cc, gp, hcc⟩ Ra Sb Ao hcl pp pq po ap => by
    rw [h58]
    refine .bnd rfl (.bnd (sldA_at gm rfl) (.bnd (dc a b) (.bnd rfl (Wp.stL gp hcc rfl rfl (by decide) fun h63 c63 n63 g63 => ?_))))
    rw [Gx.w1 (by omega)]
    refine ih (i + 1) o2 a b h63 (by omega) (kH2.keepsS c63 fun y hy => by subst hy; omega) (by omega) ?_ hO2
    rw [← e2]
    exact ⟨g63, Ra.chg c63 fun z hz q => by have := pp z hz; omega, Sb.chg c63 fun z hz q => (pq z hz).2.1 q, Ao.chg c63 fun z hz q => po z hz q, hcl, by omega, by omega, pp, fun z hz => ⟨(pq z hz).1, (pq z hz).2.1, by have := (pq z hz).2.2; omega⟩, po, ap⟩
   have tb := tooB_app (x := x) o1 (by omega)
   by_cases ct : tooB sp.2.1 (sp.2.2 ++ [x])
   ·have e2 : spAll sup (its.take (i + 1)) = (sp.1 ++ [bA (textB sp.2.1 sp.2.2)], [], [x]) := by rw [est]; unfold spStep; rw [if_pos ct]
    have hf : r66.1.2 = false := by rw [q66]; exact decide_eq_false (by have := tb.1 ct; omega)
    refine .ifp (by rw [hf]; rfl) (.bnd rfl (.bnd P66.load (.bnd (dc ps pi) (.call (text_spec (DD k) (by omega) P66.R P66.S o2 (by omega)) fun r70 ⟨q70, k70⟩ => ?_))))
    rw [if_neg (fun z => z.elim (fun z => by omega) fun z => by omega)] at q70
    have n70 := k70.nx
    have P70 := P66.keeps k70
    refine Wp.newE fun h71 e71 k71 n71 g71 => ?_
    rw [q70] at e71
    obtain ⟨s'', h72, b1', b2', A72, c72, d72⟩ := Acc.pushK P70.A (fun _ => rfl) (bA (textB sp.2.1 sp.2.2)) (bytes := 16) e71 (by omega) (by decide) (by omega)
    have n72 : r70.2.next ≤ h72.next := c72.nx
    have hc72 : ∀ y, ofS o y → h.next ≤ y := fun y ⟨a, ha, e⟩ => by rw [e]; exact (P.A.lt a ha).2
    have c70' : Chg (ofS o) r70.2 h72 := c72
    have ox : ∀ y, ofS o y → y ≠ H.next ∧ y ≠ h33.next + 1 ∧ y ≠ r6.2.next := fun y ⟨a, ha, e⟩ => by
     have := (P.A.lt a ha).1
     have := P.po a ha
     omega
    have gi72 : h72.get H.next = some (.cells (itC x) 57 true 0) := c70'.got (by omega) (fun z => (ox _ z).1 rfl) (k70.got (by omega) (k66.got (by omega) (c4350.got (by omega) (by omega) (k43.got (by omega) (k3342.got (by omega) g33)))))
    have gm72 : h72.get (h33.next + 1) = some (.cells [.slice ps.a ps.len ps.cap, .slice s'.a s'.len s'.cap] 25 true 0) := c70'.got (by omega) (fun z => (ox _ z).2.1 rfl) (k70.got (by omega) g66)
    have gp72 := c70'.got P70.lt (fun z => (ox _ z).2.2 rfl) P70.blk
    refine .bnd b1' (.bnd b2' (.bnd (sldA_at gi72 rfl) (.bnd (decI6 x) (Wp.newE fun h76 e76 k76 n76 g76 => ?_))))
    have n76' : h76.next = h72.next + 1 := n76
    have gm76 := k76.got (show h33.next + 1 < h72.next by omega) gm72
    refine Wp.stL gm76 rfl rfl rfl (by decide) fun h77 c77 n77 g77 => ?_
    have gx77 : h77.get h72.next = some (.cells (itC x) 57 true 0) := c77.got (by omega) (by omega) g76
    have kz : Keeps h h77 := ((((kp.trans kH66).trans k70).keepsS c72 hc72).trans k76).keepsS c77 fun y hy => by subst hy; omega
    refine turn h77 s'' ⟨none, 0, 0⟩ ⟨some ⟨h72.next, 0, some 0⟩, 1, 1⟩ (sp.1 ++ [bA (textB sp.2.1 sp.2.2)], [], [x]) e2.symm kz (by omega) g77 (by omega) ⟨_, c77.got (by have := P70.lt; omega) (by have := P.lt; omega) (k76.got (by have := P70.lt; omega) gp72), rfl⟩ (Row.nil _ _ _ _) (oneRow x gx77 (by omega)) ((A72.keeps k76).chg c77 fun a ha z => by have := d72 a ha; omega) ⟨fun _ => by simp, fun a ha => by cases ha; rfl, Nat.le_refl _⟩ (fun z hz => by cases hz) (fun z hz => by cases hz; exact ⟨by show h.next ≤ h72.next; omega, by have := P.lt; show h72.next ≠ _; omega, by show h72.next < h77.next; omega⟩) (fun z hz => by have := d72 z hz; have := P.lt; omega) (fun z c hz hc => by cases hz; have := (A72.lt c hc).1; show h72.next ≠ c.block; omega)
   ·have e2 : spAll sup (its.take (i + 1)) = (sp.1, sp.2.1, sp.2.2 ++ [x]) := by rw [est]; unfold spStep; rw [if_neg ct]
    have hf : r66.1.2 = true := by rw [q66]; exact decide_eq_true (Nat.le_of_not_lt fun z => ct (tb.2 z))
    refine .ifn (by rw [hf]; decide) ?_
    have hcs : ClipOk s' := by
     rcases A43.st with ⟨z, _⟩ | ⟨b, z, _⟩
     ·rw [z] at es'; cases es'
     ·rw [z]; exact ⟨fun _ => by simp, fun a ha => by cases ha; rfl, Nat.le_refl _⟩
    refine turn r66.2 o ps s' (sp.1, sp.2.1, sp.2.2 ++ [x]) e2.symm (kp.trans kH66) (by omega) g66 (by omega) ⟨_, P66.blk, rfl⟩ P66.R (S50.keeps k66) P66.A hcs P.pp (fun z hz => by rw [es'] at hz; cases hz; exact ⟨by show h.next ≤ h42.next; omega, by have := P.lt; show h42.next ≠ _; omega, by show h42.next < r66.2.next; omega⟩) P.po (fun z c hz hc => by rw [es'] at hz; cases hz; have := (P.A.lt c hc).1; show h42.next ≠ c.block; omega)
 have n46 := k46.nx
 refine loop its.length 0 ⟨none, 0, 0⟩ fs ⟨none, 0, 0⟩ h9 (by omega) k09 (Nat.le_refl _) ?_ ?_
 ·exact ⟨g9, R.keeps k09, RowW.nil _ _ _ _ _, Acc.nil _ _ _ _, ⟨fun z => absurd rfl z, fun a ha => (by cases ha), Nat.le_refl _⟩, by omega, n16, bf, fun a ha => (by cases ha), fun a ha => (by cases ha), fun a c ha => by cases ha⟩
 ·exact ⟨c1, ⟨ok.1, fun y hy => (List.not_mem_nil hy).elim⟩, Nat.le_refl _, Nat.le_refl _⟩
end
end Gc
namespace Gc
open Go Gx
structure OwnI (base : Nat) (H : AHeap) (s : Slc) (ys : List It) : Prop where
 st : (ys = [] ∧ ∃ b, s = ⟨some ⟨b, 0, some 0⟩, 0, 0⟩ ∧ H.get b = some (.cells [] 57 true 0)) ∨ ∃ b, s = ⟨some ⟨b, 0, some 7⟩, ys.length, ys.length⟩ ∧ H.get b = some (.cells (ys.flatMap itC) 57 true 0) ∧ ys ≠ []
 lt : ∀ a, s.a = some a → a.block < H.next ∧ base ≤ a.block
section
variable {base : Nat} {H H' : AHeap} {s q : Slc} {ys : List It}
theorem OwnI.chg {S : Nat → Prop} (A : OwnI base H s ys) (c : Chg S H H') (hs : ∀ a, s.a = some a → ¬ S a.block) : OwnI base H' s ys := by
 refine ⟨?_, fun a ha => ⟨Nat.lt_of_lt_of_le (A.lt a ha).1 c.nx, (A.lt a ha).2⟩⟩
 rcases A.st with ⟨h0, b, h1, h2⟩ | ⟨b, h1, h2, h3⟩
 ·have hb := A.lt ⟨b, 0, some 0⟩ (by rw [h1])
  exact .inl ⟨h0, b, h1, (c.oth b hb.1 (hs ⟨b, 0, some 0⟩ (by rw [h1]))).trans h2⟩
 ·have hb := A.lt ⟨b, 0, some 7⟩ (by rw [h1])
  exact .inr ⟨b, h1, (c.oth b hb.1 (hs ⟨b, 0, some 7⟩ (by rw [h1]))).trans h2, h3⟩
theorem OwnI.keeps (A : OwnI base H s ys) (c : Keeps H H') : OwnI base H' s ys := A.chg c fun _ _ f => f
theorem OwnI.row (A : OwnI base H s ys) : RowW 6 itC H s ys := by
 rcases A.st with ⟨rfl, b, rfl, _⟩ | ⟨b, rfl, h2, _⟩
 ·exact RowW.nil _ _ _ _ _
 ·have := rowW_blk (cap := ys.length) (sp := some 7) itC_len h2 (A.lt ⟨b, 0, some 7⟩ rfl).1 (Nat.le_refl _)
  rw [List.take_length] at this
  exact this
theorem own_first {b : Nat} (hq : q.len = ys.length) (hl : ys.length ≤ 1048576) (g : H.get b = some (.cells [] 57 true 0)) (hb : b < H.next) (h0 : base ≤ b) :
  ∃ s' h', appendA 6 64 57 H ⟨some ⟨b, 0, some 0⟩, 0, 0⟩ (ys.flatMap itC) q.len = some (s', h') ∧ OwnI base h' s' ys ∧ Keeps H h' ∧ ∀ a, s'.a = some a → a.block = b ∨ a.block = H.next := by
 rw [hq]
 by_cases c : ys = []
 ·subst c
  refine ⟨⟨some ⟨b, 0, some 0⟩, 0, 0⟩, H, rfl, ⟨.inl ⟨rfl, b, rfl, g⟩, fun a ha => by cases ha; exact ⟨hb, h0⟩⟩, .refl _ _, fun a ha => by cases ha; exact .inl rfl⟩
 ·have hp := List.length_pos_iff.2 c
  refine ⟨⟨some ⟨H.next, 0, some 7⟩, ys.length, ys.length⟩, H.new (.cells (ys.flatMap itC) 57 true 0), ?_, ⟨.inr ⟨H.next, rfl, by simp, c⟩, fun a ha => by cases ha; exact ⟨Nat.lt_succ_self _, by show base ≤ H.next; omega⟩⟩, Keeps.new _ _, fun a ha => by cases ha; exact .inr rfl⟩
  unfold appendA
  rw [if_neg (by show ¬ 0 + ys.length ≤ 0; omega), if_pos (by show 2 * (0 + ys.length) * 64 ≤ 281474976710656 ∧ 1 ≤ 64; omega)]
  have := rdL_all (h := H) (b := b) (c := []) (e := 57) (r := true) (fz := 0) g
  show (H.rdL b 0 (0 * 6)).bind _ = _
  rw [show H.rdL b 0 (0 * 6) = some [] from this]
  simp
theorem own_push (A : OwnI base H s ys) (x : It) (hl : ys.length ≤ 1000000) (hbase : base ≤ H.next) :
  ∃ s' h', appendA 6 64 57 H s (itC x) 1 = some (s', h') ∧ AccW 6 itC 57 base h' s' (ys ++ [x]) ∧ Chg (ofS s) H h' ∧ s'.a = some ⟨H.next, 0, some 7⟩ := by
 rcases A.st with ⟨rfl, b, rfl, h2⟩ | ⟨b, rfl, h2, h3⟩
 ·refine ⟨⟨some ⟨H.next, 0, some 7⟩, 1, 1⟩, H.new (.cells (itC x) 57 true 0), ?_, ⟨.inr ⟨H.next, rfl, by simp, by simp⟩, fun a ha => by cases ha; exact ⟨Nat.lt_succ_self _, hbase⟩⟩, (Keeps.new _ _).wk fun _ _ f => f.elim, rfl⟩
  have := rdL_all (h := H) (b := b) (c := []) (e := 57) (r := true) (fz := 0) h2
  unfold appendA
  rw [if_neg (by show ¬ 0 + 1 ≤ 0; omega), if_pos (by show 2 * (0 + 1) * 64 ≤ 281474976710656 ∧ 1 ≤ 64; omega)]
  show (H.rdL b 0 (0 * 6)).bind _ = _
  rw [show H.rdL b 0 (0 * 6) = some [] from this]
  simp
 ·have hl' := flatW_length (w := 6) itC_len ys
  have hx : 0 < ys.length := List.length_pos_iff.2 h3
  refine ⟨⟨some ⟨H.next, 0, some 7⟩, ys.length + 1, ys.length + 1⟩, (H.kill b).new (.cells ((ys ++ [x]).flatMap itC) 57 true 0), ?_, ⟨.inr ⟨H.next, by simp, by simp, by simp⟩, fun a ha => by cases ha; exact ⟨Nat.lt_succ_self _, hbase⟩⟩, Chg.kill_new (S := ofS _) (.inr ⟨⟨b, 0, some 7⟩, rfl, rfl⟩), rfl⟩
  simp only [appendA]
  rw [if_neg (by omega), if_pos ⟨by omega, by omega⟩]
  simp only [h2]
  rw [if_pos ⟨by omega, trivial, by omega, by omega, trivial, trivial, itC_one x⟩, ← hl', List.take_length, List.flatMap_append]
  simp
theorem sub_one {i : Nat} {x : It} (S : RowW 6 itC H q ys) (cf : ClipOk q) (hx : ys[i]? = some x) :
  ∃ l, Gx.subL 6 q (some (i : Int)) (some ((i : Int) + 1)) none = some l ∧ (∀ H2, RowW 6 itC H2 q ys → RowW 6 itC H2 l [x]) ∧ ∀ a, l.a = some a → ∃ c, q.a = some c ∧ a.block = c.block := by
 have hi : i < ys.length := (List.getElem?_eq_some_iff.1 hx).1
 have hl := S.len
 obtain ⟨c1, c2, c3⟩ := cf
 cases ha : q.a with
 | none => exact absurd ha (c1 (by omega))
 | some a =>
  refine ⟨⟨some ⟨a.block, a.off + i * 6, a.spot⟩, 1, q.cap - i⟩, ?_, fun H2 S2 => ⟨rfl, fun j y hy => ?_⟩, fun a' h' => ⟨a, rfl, by cases h'; rfl⟩⟩
  ·simp only [Gx.subL, ha, Option.getD_none, Option.getD_some]
   rw [if_pos (by omega), if_pos (c2 a ha), if_neg (by omega)]
   simp
  ·have hj : j = 0 := by have := (List.getElem?_eq_some_iff.1 hy).1; simp at this; omega
   subst hj
   have : y = x := by simpa using hy.symm
   subst this
   obtain ⟨a', c, e, r, fz, g1, g2, g3, g4⟩ := S2.at' i y hx
   rw [ha] at g1; cases g1
   exact ⟨_, c, e, r, fz, rfl, g2, g3, fun j v hv => by
    have := g4 j v hv
    show c[a.off + i * 6 + 0 * 6 + j]? = some v
    rw [← this]; congr 1⟩
end
end Gc
namespace Gc
open Go Gx
theorem Row.chgL {α : Type} {enc : α → Value} {h h' : AHeap} {s : Slc} {xs : List α} {S : Nat → Prop} (R : Row enc h s xs) (c : Chg S h h') (hs : ∀ a, s.a = some a → 0 < s.len → ¬ S a.block) : Row enc h' s xs := by
 by_cases z : 0 < s.len
 ·exact R.chg c fun a ha => hs a ha z
 ·have := R.1
  have : xs = [] := List.length_eq_zero_iff.1 (by omega)
  subst this
  exact ⟨R.1, fun i x hx => by simp at hx⟩
structure PartR (base : Nat) (H : AHeap) (el pb : Nat) (ps pi o : Slc) (s : Sp) : Prop where
 blk : H.get pb = some (.cells [.slice ps.a ps.len ps.cap, .slice pi.a pi.len pi.cap] el true 0)
 R : Row encS H ps s.2.1
 S : RowW 6 itC H pi s.2.2
 A : Acc encS 9 base H o s.1
 lt : pb < H.next
 ge : base ≤ pb
 pp : ∀ a, ps.a = some a → 0 < ps.len → a.block < base
 pq : ∀ a, pi.a = some a → a.block ≠ pb ∧ a.block < H.next
 po : ∀ a, o.a = some a → a.block ≠ pb
 ap : ∀ a c, pi.a = some a → o.a = some c → a.block ≠ c.block
section
variable {base pb el : Nat} {H H' : AHeap} {ps pi o : Slc} {s : Sp}
theorem PartR.keeps (P : PartR base H el pb ps pi o s) (k : Keeps H H') : PartR base H' el pb ps pi o s :=
 ⟨k.got P.lt P.blk, P.R.keeps k, P.S.keeps k, P.A.keeps k, Nat.lt_of_lt_of_le P.lt k.nx, P.ge, P.pp, fun a ha => ⟨(P.pq a ha).1, Nat.lt_of_lt_of_le (P.pq a ha).2 k.nx⟩, P.po, P.ap⟩
theorem PartR.load (P : PartR base H el pb ps pi o s) : ldA 2 ⟨pb, 0, none⟩ H = some [.slice ps.a ps.len ps.cap, .slice pi.a pi.len pi.cap] := sldA_at P.blk rfl
end
section
variable {k : Nat} {h : AHeap} {fs fi : Slc} {sup : List ByteArray} {its : List It}
theorem rsplit_spec (D : CallF) (hk : 20000 ≤ k) (R : Row encS h fs sup) (S : RowW 6 itC h fi its) (cf : its ≠ [] → ClipOk fi) (hl : sup.length + its.length + 20 ≤ k) (hb : sup.length + its.length < 9000000000000000000) (hi : its.length ≤ 1000) :
  Gx.Wp (ref16_Split k D (fs, fi) h) fun z => z.1.2 = (splitR sup its).2 ∧ Row encS z.2 z.1.1 (splitR sup its).1 ∧ Keeps h z.2 := by
 simp only [ref16_Split]
 refine Wp.newE fun h1 e1 k1 n1 g1 => ?_
 have ld : ∀ {H : AHeap}, Keeps h1 H → ldA 2 ⟨h.next, 0, none⟩ H = some [.slice fs.a fs.len fs.cap, .slice fi.a fi.len fi.cap] := fun kk => sldA_at (kk.got (by omega) g1) rfl
 have l0 : ∀ {H : AHeap}, Keeps h1 H → ldL ⟨h.next, 0, none⟩ H = some fs := fun kk => sldL_at (kk.got (by omega) g1) rfl
 have l1 : ∀ {H : AHeap}, Keeps h1 H → ldL ⟨h.next, 0 + 1, none⟩ H = some fi := fun kk => sldL_at (kk.got (by omega) g1) rfl
 have dc : ∀ (a b : Slc), decC [.l, .l] [.slice a.a a.len a.cap, .slice b.a b.len b.cap] = some (a, b) := fun _ _ => rfl
 refine .bnd (ld (.refl _ _)) (.bnd (dc fs fi) (.call (refused_spec D (R.keeps k1) (S.keeps k1) hl hb) fun r4 ⟨q4, k4⟩ => ?_))
 by_cases c0 : chkF sup its = 0
 rotate_left
 ·have e : splitR sup its = ([], chkF sup its) := by unfold splitR; rw [if_neg c0]
  rw [e]
  exact .ifp (by rw [q4]; simpa using c0) (.of ⟨by rw [q4], Row.nil _ _ _ _, k1.trans k4⟩)
 have ok := (chk_zero.1 c0).1
 have k14 : Keeps h r4.2 := k1.trans k4
 refine .ifn (by rw [q4, c0]; decide) (.bnd (l0 k4) (.call (rlong_spec D (by omega) (R.keeps k14) (RowW.nil 6 itC r4.2 none 0) (its := []) ⟨ok.1, fun y hy => (List.not_mem_nil hy).elim⟩) fun r6 ⟨q6, k6⟩ => ?_))
 have k16 : Keeps h r6.2 := k14.trans k6
 have k46 : Keeps h1 r6.2 := k4.trans k6
 by_cases c1 : tooB sup []
 ·have e : splitR sup its = ([], 2) := by unfold splitR; rw [if_pos c0, if_pos c1]
  rw [e]
  exact .ifp (q6.2 c1) (.of ⟨rfl, Row.nil _ _ _ _, k16⟩)
 have h6 : r6.1 = false := by cases e : r6.1; rfl; exact absurd (q6.1 e) c1
 have e : splitR sup its = ((spAll sup its).1 ++ [bA (textB (spAll sup its).2.1 (spAll sup its).2.2)], 0) := by unfold splitR; rw [if_pos c0, if_neg c1]
 rw [e]
 have n16 := k16.nx
 have n46 := k46.nx
 have bf : ∀ a, fs.a = some a → 0 < fs.len → a.block < h.next := fun a ha z0 => by
  obtain ⟨y, hy⟩ := isome (l := sup) (i := 0) (by have := R.1; omega)
  obtain ⟨a', _, _, _, _, u1, u2, _⟩ := R.2 0 y hy
  rw [ha] at u1
  cases u1
  exact u2
 refine .ifn (by rw [h6]; decide) (.bnd (l0 k46) (Wp.newE fun h8 e8 k8 n8 g8 => Wp.stL g8 rfl rfl rfl (by decide) fun h9 c9 n9 g9 => Gx.Wp.jn fun j13 h13 => ?_))
 have k9 : Keeps r6.2 h9 := k8.keepsS c9 fun y hy => by subst hy; omega
 unfold ref16_Split_l0
 obtain ⟨bot, eb⟩ := iterK_of (fun _ _ _ _ _ => none) (ref16_Split_l0b k D j13) (show its.length + 1 ≤ k by omega)
 rw [eb]
 have il : (fi.len : Int) = (its.length : Int) := by rw [S.len]
 have loop : ∀ (d i : Nat) (o ps pi : Slc) (H : AHeap), i + d = its.length → Keeps r6.2 H → h9.next ≤ H.next → PartR r6.2.next H 28 r6.2.next ps pi o (spAll sup (its.take i)) → SpOk (spAll sup (its.take i)) i → Gx.Wp (iterK bot (d + 1) (ref16_Split_l0b k D j13) (some ⟨h.next, 0, none⟩) o (some ⟨r6.2.next, 0, none⟩) (i : Int) H) fun z => z.1.2 = 0 ∧ Row encS z.2 z.1.1 ((spAll sup its).1 ++ [bA (textB (spAll sup its).2.1 (spAll sup its).2.2)]) ∧ Keeps h z.2 := fun d => by
  induction d with
  | zero =>
   intro i o ps pi H hd kp hn P hO
   rw [iterK_s]; simp only [ref16_Split_l0b]
   rw [List.take_of_length_le (by omega)] at P hO
   refine .bnd rfl (.bnd (l1 (k46.trans kp)) (.ifn (by rw [il]; simp; omega) ?_))
   rw [h13]
   obtain ⟨o1, o2, o3, o4⟩ := hO
   have hs1 : (spAll sup its).2.1.length ≤ 4096 := Nat.le_of_not_lt fun z => o1 (.inl z)
   refine .bnd rfl (.bnd P.load (.bnd (dc ps pi) (.call (rtext_spec D (by omega) P.R P.S o2 hs1 (by omega)) fun r17 ⟨q17, k17⟩ => ?_)))
   refine Wp.newE fun h18 e18 k18 n18 g18 => ?_
   rw [q17] at e18
   obtain ⟨s', h9', a1, a2, A9, c9', d9⟩ := Acc.pushK (P.A.keeps k17) (fun _ => rfl) (bA (textB (spAll sup its).2.1 (spAll sup its).2.2)) (bytes := 16) e18 (by omega) (by decide) (Nat.le_trans kp.nx k17.nx)
   refine .bnd a1 (.bnd a2 (.of ⟨rfl, A9.row, k16.trans ((kp.trans k17).keepsS c9' fun y ⟨a, ha, e⟩ => by rw [e]; exact (P.A.lt a ha).2)⟩))
  | succ d ih =>
   intro i o ps pi H hd kp hn P hO
   rw [iterK_s]; simp only [ref16_Split_l0b]
   obtain ⟨x, hx⟩ := isome (l := its) (i := i) (by omega)
   have okx := ok.2 x (mem_of hx)
   have SS : ∀ {H2 : AHeap}, Keeps r6.2 H2 → RowW 6 itC H2 fi its := fun kk => S.keeps (k16.trans kk)
   obtain ⟨q, b1, b2, _⟩ := (SS kp).ld itC_len (by decide) hx
   have bx : ∀ {H2 : AHeap}, Keeps r6.2 H2 → ldA 6 q H2 = some (itC x) := fun kk => by
    obtain ⟨q', b1', b2', _⟩ := (SS kk).ld itC_len (by decide) hx
    rw [b1] at b1'
    cases b1'
    exact b2'
   have est : spAll sup (its.take (i + 1)) = spStep (spAll sup (its.take i)) x := by rw [← spAll_snoc, List.take_add_one, hx]; rfl
   have hO2 := spStep_ok hO okx
   rw [← est] at hO2
   obtain ⟨o1, o2, o3, o4⟩ := hO
   obtain ⟨sp, esp⟩ : ∃ sp, sp = spAll sup (its.take i) := ⟨_, rfl⟩
   rw [← esp] at P o1 o2 o3 o4 est
   have hs1 : sp.2.1.length ≤ 4096 := Nat.le_of_not_lt fun z => o1 (.inl z)
   have nk := kp.nx
   obtain ⟨h29, e29⟩ : ∃ h29, h29 = AHeap.resv H 3 := ⟨_, rfl⟩
   have k29 : Keeps H h29 := ⟨by rw [e29]; show H.next ≤ H.next + 3; omega, fun b hb _ => by rw [e29]; rfl⟩
   have n29 : h29.next = H.next + 3 := by rw [e29]; rfl
   obtain ⟨h30, e30⟩ : ∃ h30, h30 = AHeap.set h29 (H.next + 0) (.cells [] 57 true 0) := ⟨_, rfl⟩
   have k30 : Keeps H h30 := by rw [e30]; exact Keeps.set k29 (by omega)
   have n30 : h30.next = H.next + 3 := by rw [e30]; exact n29
   have g30 : h30.get (H.next + 0) = some (.cells [] 57 true 0) := by rw [e30]; simp
   have P29 := P.keeps k29
   have P30 := P.keeps k30
   obtain ⟨s1, h35, a1, O35, k35, p35⟩ := own_first (base := r6.2.next) (ys := sp.2.2) P30.S.len (by omega) g30 (by omega) (by omega)
   have n35 := k35.nx
   have kH35 : Keeps H h35 := k30.trans k35
   obtain ⟨h46, e46⟩ : ∃ h46, h46 = AHeap.set h35 (H.next + 1) (.cells (itC x) 57 true 0) := ⟨_, rfl⟩
   have e46' : AHeap.set h35 (H.next + 1) (.cells [.string x.1, .string x.2.1, .int .i64 x.2.2.1, .int .i64 x.2.2.2.1, .int .i64 x.2.2.2.2.1, .int .i64 x.2.2.2.2.2] 57 true 0) = h46 := e46.symm
   have g46 : h46.get (H.next + 1) = some (.cells (itC x) 57 true 0) := by rw [e46]; simp
   have n46' : h46.next = h35.next := by rw [e46]; rfl
   have c46 : Chg (· = H.next + 1) h35 h46 := by rw [e46]; exact Chg.set (.inr rfl)
   have kH46 : Keeps H h46 := by rw [e46]; exact Keeps.set kH35 (by omega)
   obtain ⟨s2, h47, a2, A47, c47, es2⟩ := own_push (base := r6.2.next) (O35.chg c46 fun a ha z => by have := p35 a ha; have z' : a.block = H.next + 1 := z; omega) x (by omega) (by omega)
   have n47 : h46.next < h47.next := (A47.lt _ es2).1
   have kH47 : Keeps H h47 := kH46.keepsS c47 fun y ⟨a, ha, e⟩ => by have := p35 a ha; omega
   have P46 := P.keeps kH46
   have P35 := P.keeps kH35
   have P47 := P.keeps kH47
   have er : Gx.rdS 6 ⟨some ⟨H.next + 1, 0, some 0⟩, 1, 1⟩ h46 = some (itC x) := by
    simp only [Gx.rdS]
    rw [rdL_ok g46 (by simp [itC])]
    rfl
   rw [← e29, ← e30]
   refine .bnd rfl (.bnd (l1 (k46.trans kp)) (.ifp (by rw [il]; simp; omega) (.bnd rfl (.bnd (sldL_at (o := 0 + 1) P30.blk rfl) (.gp (ssw1 (by rw [sldL_at (sp := none) (o := 0 + 1) P29.blk rfl]; rfl)) (.bnd (Gc.RowW.rdAll P30.S itC_len (by decide)) (.bnd a1 (.bnd rfl (.bnd (l1 (k46.trans (kp.trans kH35))) (.gp (fun HH hH => ?_) (.bnd b1 (.bnd (bx (kp.trans kH35)) (.gp (fun HH hH => ?_) (.bnd (decI6 x) ?_))))))))))))))
   ·simp only [List.mem_cons, List.not_mem_nil, or_false] at hH
    dsimp only
    rcases hH with z | z
    ·rw [z, l1 (k46.trans (kp.trans k30))]; rfl
    ·rw [z, l1 (k46.trans (kp.trans k29))]; rfl
   ·simp only [List.mem_cons, List.not_mem_nil, or_false] at hH
    dsimp only
    rcases hH with z | z
    ·rw [z, bx (kp.trans k30)]; rfl
    ·rw [z, bx (kp.trans k29)]; rfl
   rw [e46']
   refine .bnd er (.bnd a2 (.bnd rfl (.bnd (sldL_at (o := 0 + 0) P47.blk rfl) (.gp (fun HH hH => ?_) ?_))))
   ·simp only [List.mem_cons, List.not_mem_nil, or_false] at hH
    dsimp only
    rcases hH with z | z | z | z
    ·rw [z, sldL_at (sp := none) (o := 0 + 0) P46.blk rfl]; rfl
    ·rw [z, sldL_at (sp := none) (o := 0 + 0) P35.blk rfl]; rfl
    ·rw [z, sldL_at (sp := none) (o := 0 + 0) P30.blk rfl]; rfl
    ·rw [z, sldL_at (sp := none) (o := 0 + 0) P29.blk rfl]; rfl
   obtain ⟨h53, e53⟩ : ∃ h53, h53 = AHeap.set h47 (H.next + 2) (.cells [.slice none 0 0, .slice none 0 0] 28 true 0) := ⟨_, rfl⟩
   dsimp only
   rw [← e53]
   have g53 : h53.get (H.next + 2) = some (.cells [.slice none 0 0, .slice none 0 0] 28 true 0) := by rw [e53]; simp
   have n53 : h53.next = h47.next := by rw [e53]; rfl
   have c53 : Chg (· = H.next + 2) h47 h53 := by rw [e53]; exact Chg.set (.inr rfl)
   refine Wp.stL g53 rfl rfl rfl (by decide) fun h54 c54 n54 g54 => Gx.Wp.jn fun j61 h61 => ?_
   have c4754 : Chg (· = H.next + 2) h47 h54 := Chg.trans c53 c54
   have kH54 : Keeps H h54 := kH47.keepsS c4754 fun y hy => by subst hy; omega
   have P54 := P.keeps kH54
   have S54 : RowW 6 itC h54 s2 (sp.2.2 ++ [x]) := (A47.row itC_len).chg c4754 fun a ha z => by rw [es2] at ha; cases ha; have z' : h46.next = H.next + 2 := z; omega
   have okm : sizeOk sp.2.1 (sp.2.2 ++ [x]) := ⟨o2.1, fun y hy => by
    rcases List.mem_append.1 hy with g | g
    ·exact o2.2 y g
    ·rw [List.mem_singleton.1 g]; exact okx⟩
   have n4754 := c4754.nx
   refine .bnd (sldA_at g54 rfl) (.bnd (dc ps s2) (.call (rlong_spec D (by omega) P54.R S54 okm) fun r69 ⟨q69, k69⟩ => ?_))
   have n69 := k69.nx
   have g69 := k69.got (by omega) g54
   have kH69 : Keeps H r69.2 := kH54.trans k69
   have P69 := P.keeps kH69
   have turn : ∀ (H2 : AHeap) (o2 a b : Slc) (s2 : Sp), s2 = spAll sup (its.take (i + 1)) → Keeps r6.2 H2 → h9.next ≤ H2.next → H2.get (H.next + 2) = some (.cells [.slice a.a a.len a.cap, .slice b.a b.len b.cap] 28 true 0) → H.next + 2 < H2.next → (∃ cc, H2.get r6.2.next = some (.cells cc 28 true 0) ∧ cc.length = 2) → Row encS H2 a s2.2.1 → RowW 6 itC H2 b s2.2.2 → Acc encS 9 r6.2.next H2 o2 s2.1 → (∀ z, a.a = some z → 0 < a.len → z.block < r6.2.next) → (∀ z, b.a = some z → z.block ≠ r6.2.next ∧ z.block < H2.next) → (∀ z, o2.a = some z → z.block ≠ r6.2.next) → (∀ z c, b.a = some z → o2.a = some c → z.block ≠ c.block) → Gx.Wp (j61 (some ⟨h.next, 0, none⟩) o2 (some ⟨r6.2.next, 0, none⟩) (i : Int) (some ⟨H.next + 2, 0, none⟩) H2) fun z => z.1.2 = 0 ∧ Row encS z.2 z.1.1 ((spAll sup its).1 ++ [bA (textB (spAll sup its).2.1 (spAll sup its).2.2)]) ∧ Keeps h z.2 := fun H2 o2 a b s2 e2 kH2 hn2 gm hlt ⟨cc, gp, hcc⟩ Ra Sb Ao pp pq po ap => by
    rw [h61]
    refine .bnd rfl (.bnd (sldA_at gm rfl) (.bnd (dc a b) (.bnd rfl (Wp.stL gp hcc rfl rfl (by decide) fun h63 c63 n63 g63 => ?_))))
    rw [Gx.w1 (by omega)]
    refine ih (i + 1) o2 a b h63 (by omega) (kH2.keepsS c63 fun y hy => by subst hy; omega) (by omega) ?_ hO2
    rw [← e2]
    exact ⟨g63, Row.chgL Ra c63 fun z hz z0 q => by have := pp z hz z0; omega, Sb.chg c63 fun z hz q => (pq z hz).1 q, Ao.chg c63 fun z hz q => po z hz q, by omega, by omega, pp, fun z hz => ⟨(pq z hz).1, by have := (pq z hz).2; omega⟩, po, ap⟩
   by_cases ct : tooB sp.2.1 (sp.2.2 ++ [x])
   ·have e2 : spAll sup (its.take (i + 1)) = (sp.1 ++ [bA (textB sp.2.1 sp.2.2)], [], [x]) := by rw [est]; unfold spStep; rw [if_pos ct]
    refine .ifp (q69.2 ct) (.bnd rfl (.bnd P69.load (.bnd (dc ps pi) (.call (rtext_spec D (by omega) P69.R P69.S o2 hs1 (by omega)) fun r73 ⟨q73, k73⟩ => ?_))))
    have n73 := k73.nx
    have P73 := P69.keeps k73
    refine Wp.newE fun h74 e74 k74 n74 g74 => ?_
    rw [q73] at e74
    obtain ⟨s'', h75, b1', b2', A75, c75, d75⟩ := Acc.pushK P73.A (fun _ => rfl) (bA (textB sp.2.1 sp.2.2)) (bytes := 16) e74 (by omega) (by decide) (by omega)
    have n75 : r73.2.next ≤ h75.next := c75.nx
    have hc75 : ∀ y, ofS o y → r6.2.next ≤ y := fun y ⟨a, ha, e⟩ => by rw [e]; exact (P.A.lt a ha).2
    have c75' : Chg (ofS o) r73.2 h75 := c75
    have ox : ∀ y, ofS o y → y < H.next ∧ y ≠ r6.2.next := fun y ⟨a, ha, e⟩ => by
     have := (P.A.lt a ha).1
     have := P.po a ha
     omega
    have k75 : Keeps r6.2 h75 := ((kp.trans kH69).trans k73).keepsS c75 hc75
    have gm75 : h75.get (H.next + 2) = some (.cells [.slice ps.a ps.len ps.cap, .slice s2.a s2.len s2.cap] 28 true 0) := c75'.got (by omega) (fun z => by have := (ox _ z).1; omega) (k73.got (by omega) g69)
    have gp75 := c75'.got P73.lt (fun z => (ox _ z).2 rfl) P73.blk
    obtain ⟨l, el, rl, pl⟩ := sub_one S (cf fun z => by rw [z] at hx; simp at hx) hx
    have el' : Gx.subL 6 fi (some (i : Int)) (some (IntKind.wrap .i64 ((i : Int) + 1))) none = some l := by
     rw [Gx.w1 (by omega)]; exact el
    refine .bnd b1' (.bnd b2' (.bnd rfl (.bnd (l1 (k46.trans k75)) (.bnd el' ?_))))
    refine Wp.stL gm75 rfl rfl rfl (by decide) fun h77 c77 n77 g77 => ?_
    have n77' : h75.next ≤ h77.next := c77.nx
    have k77 : Keeps r6.2 h77 := k75.keepsS c77 fun y hy => by subst hy; omega
    have pl' : ∀ a, l.a = some a → a.block < h.next := fun a ha => by 
     obtain ⟨c, hc, e⟩ := pl a ha
     obtain ⟨a', _, _, _, _, u1, u2, _⟩ := S.at' i x hx
     rw [hc] at u1
     cases u1
     rw [e]; exact u2
    refine turn h77 s'' ⟨none, 0, 0⟩ l (sp.1 ++ [bA (textB sp.2.1 sp.2.2)], [], [x]) e2.symm k77 (by omega) g77 (by omega) ⟨_, c77.got (by have := P73.lt; omega) (by have := P.lt; omega) gp75, rfl⟩ (Row.nil _ _ _ _) (rl _ (SS k77)) (A75.chg c77 fun a ha z => by have := d75 a ha; omega) (fun z hz _ => by cases hz) (fun z hz => by have := pl' z hz; omega) (fun z hz => by have := d75 z hz; have := P.lt; omega) (fun z c hz hc => by have := pl' z hz; have := (A75.lt c hc).2; omega)
   ·have e2 : spAll sup (its.take (i + 1)) = (sp.1, sp.2.1, sp.2.2 ++ [x]) := by rw [est]; unfold spStep; rw [if_neg ct]
    have hf : ¬ r69.1 = true := fun z => ct (q69.1 z)
    refine .ifn hf ?_
    refine turn r69.2 o ps s2 (sp.1, sp.2.1, sp.2.2 ++ [x]) e2.symm (kp.trans kH69) (by omega) g69 (by omega) ⟨_, P69.blk, rfl⟩ P69.R (S54.keeps k69) P69.A P.pp (fun z hz => by rw [es2] at hz; cases hz; exact ⟨by have := P.lt; show h46.next ≠ _; omega, by show h46.next < r69.2.next; omega⟩) P.po (fun z c hz hc => by rw [es2] at hz; cases hz; have := (P.A.lt c hc).1; show h46.next ≠ c.block; omega)
 refine loop its.length 0 ⟨none, 0, 0⟩ fs ⟨none, 0, 0⟩ h9 (by omega) k9 (Nat.le_refl _) ?_ ?_
 ·exact ⟨g9, (R.keeps k16).keeps k9, RowW.nil _ _ _ _ _, Acc.nil _ _ _ _, by omega, by omega, fun a ha z0 => by have := bf a ha z0; omega, fun a ha => (by cases ha), fun a ha => (by cases ha), fun a c ha => by cases ha⟩
 ·exact ⟨c1, ⟨ok.1, fun y hy => (List.not_mem_nil hy).elim⟩, Nat.le_refl _, Nat.le_refl _⟩
end
end Gc
namespace Gc
open Go Gx
theorem ldS_at {h : AHeap} {b o : Nat} {sp : Option Nat} {c : List Value} {e : TypeId} {r : Bool} {fz : Nat} {m : ByteArray} (hb : h.get b = some (.cells c e r fz)) (hc : c[o]? = some (.string m)) : Gx.ldS ⟨b, o, sp⟩ h = some m := by
 simp only [Gx.ldS, AHeap.rd1, hb, hc]; rfl
structure AccV {α : Type} (w : Nat) (enc : α → List Value) (e : TypeId) (base : Nat) (h : AHeap) (s : Slc) (xs : List α) : Prop where
 st : (s.len = 0 ∧ s.cap = 0 ∧ xs = [] ∧ ∀ a, s.a = some a → a.spot = some 0) ∨ ∃ b, s = ⟨some ⟨b, 0, some (w + 1)⟩, xs.length, xs.length⟩ ∧ h.get b = some (.cells (xs.flatMap enc) e true 0) ∧ xs ≠ []
 lt : ∀ a, s.a = some a → a.block < h.next ∧ base ≤ a.block
section
variable {α : Type} {w : Nat} {enc : α → List Value} {e : TypeId} {base : Nat} {h h' : AHeap} {s : Slc} {xs : List α}
theorem AccV.nil (w : Nat) (enc : α → List Value) (e : TypeId) (base : Nat) (h : AHeap) : AccV w enc e base h ⟨none, 0, 0⟩ [] := ⟨.inl ⟨rfl, rfl, rfl, fun a ha => by cases ha⟩, fun a ha => by cases ha⟩
theorem AccV.chg {S : Nat → Prop} (A : AccV w enc e base h s xs) (c : Chg S h h') (hs : ∀ a, s.a = some a → ¬ S a.block) : AccV w enc e base h' s xs := by
 refine ⟨A.st.imp id ?_, fun a ha => ⟨Nat.lt_of_lt_of_le (A.lt a ha).1 c.nx, (A.lt a ha).2⟩⟩
 rintro ⟨b, h1, h2, h3⟩
 have hb := A.lt ⟨b, 0, some (w + 1)⟩ (by rw [h1])
 exact ⟨b, h1, (c.oth b hb.1 (hs ⟨b, 0, some (w + 1)⟩ (by rw [h1]))).trans h2, h3⟩
theorem AccV.keeps (A : AccV w enc e base h s xs) (c : Keeps h h') : AccV w enc e base h' s xs := A.chg c fun _ _ f => f
theorem AccV.row (A : AccV w enc e base h s xs) (hw : ∀ x, (enc x).length = w) : RowW w enc h s xs := by
 rcases A.st with ⟨h1, h2, rfl, _⟩ | ⟨b, rfl, h2, h3⟩
 ·exact ⟨h1, fun i x hx => by simp at hx⟩
 ·have := rowW_blk (cap := xs.length) (sp := some (w + 1)) hw h2 (A.lt ⟨b, 0, some (w + 1)⟩ rfl).1 (Nat.le_refl _)
  rw [List.take_length] at this
  exact this
theorem AccV.app (A : AccV w enc e base h s xs) (hw : ∀ x, (enc x).length = w) (ho : ∀ x, allOne (enc x) = true) (ys : List α) {bytes : Nat} (h1 : 1 ≤ bytes) (hs : 2 * (xs.length + ys.length) * bytes ≤ 281474976710656) (hbase : base ≤ h.next) :
  ∃ s' h', appendA w bytes e h s (ys.flatMap enc) ys.length = some (s', h') ∧ AccV w enc e base h' s' (xs ++ ys) ∧ Chg (ofS s) h h' ∧ ∀ a, s'.a = some a → h.next ≤ a.block ∨ s.a = some a := by
 by_cases hy : ys = []
 ·subst hy
  refine ⟨s, h, ?_, by rw [List.append_nil]; exact A, Chg.refl _ _, fun a ha => .inr ha⟩
  simp only [appendA, List.length_nil]
  have hle : s.len + 0 ≤ s.cap := by
   rcases A.st with ⟨q1, q2, _⟩ | ⟨b, rfl, _⟩
   ·omega
   ·exact Nat.le_refl _
  rw [if_pos hle]
  obtain ⟨a, n, c⟩ := s
  cases a with
  | none =>
   rcases A.st with ⟨q1, q2, _⟩ | ⟨b, q, _⟩
   ·simp only at q1 q2; subst q1 q2; rfl
   ·cases q
  | some a => rfl
 ·have ly : 0 < ys.length := List.length_pos_iff.2 hy
  rcases A.st with ⟨q1, q2, rfl, q3⟩ | ⟨b, rfl, h2, h3⟩
  ·refine ⟨⟨some ⟨h.next, 0, some (w + 1)⟩, ys.length, ys.length⟩, h.new (.cells (ys.flatMap enc) e true 0), ?_, ⟨.inr ⟨h.next, by simp, by simp, by simpa using hy⟩, ?_⟩, (Keeps.new h _).wk fun _ _ f => f.elim, ?_⟩
   ·simp only [appendA]
    rw [if_neg (by omega), if_pos ⟨by rw [q1]; simpa using hs, h1⟩]
    obtain ⟨a, n, c⟩ := s
    simp only at q1 q2; subst q1 q2
    cases a with
    | none => rfl
    | some a =>
     have := q3 a rfl
     obtain ⟨b, o, sp⟩ := a
     simp only at this; subst this
     simp [AHeap.rdL]
   ·intro a ha; cases ha; simp; exact hbase
   ·intro a ha; cases ha; exact .inl (Nat.le_refl _)
  ·have hb := A.lt ⟨b, 0, some (w + 1)⟩ rfl
   have hl := flatW_length hw xs
   have hx : 0 < xs.length := List.length_pos_iff.2 h3
   refine ⟨⟨some ⟨h.next, 0, some (w + 1)⟩, xs.length + ys.length, xs.length + ys.length⟩, (h.kill b).new (.cells ((xs ++ ys).flatMap enc) e true 0), ?_, ⟨.inr ⟨h.next, by simp, by simp, by simp [h3]⟩, ?_⟩, Chg.wk (S := (· = b)) (Chg.kill_new (.inr rfl)) fun y hy q => ⟨⟨b, 0, some (w + 1)⟩, rfl, q⟩, ?_⟩
   ·simp only [appendA]
    rw [if_neg (by omega), if_pos ⟨hs, h1⟩]
    simp only [h2]
    rw [if_pos ⟨by omega, trivial, by omega, by omega, trivial, trivial, flatW_one ho ys⟩, ← hl, List.take_length, List.flatMap_append]
   ·intro a ha; cases ha; simp; exact hbase
   ·intro a ha; cases ha; exact .inl (Nat.le_refl _)
end
theorem empty0 {α : Type} {w : Nat} {enc : α → List Value} {e : TypeId} {base : Nat} {h : AHeap} {b : Nat} (hb : base ≤ b) (hl : b < h.next) : AccV w enc e base h (⟨some ⟨b, 0, some 0⟩, 0, 0⟩ : Slc) [] :=
 ⟨.inl ⟨rfl, rfl, rfl, fun a ha => by cases ha; rfl⟩, fun a ha => by cases ha; exact ⟨hl, hb⟩⟩
def encS1 (x : ByteArray) : List Value := [encS x]
theorem encS1_len (x : ByteArray) : (encS1 x).length = 1 := rfl
theorem encS1_one (x : ByteArray) : allOne (encS1 x) = true := rfl
theorem flatS : ∀ xs : List ByteArray, xs.flatMap encS1 = xs.map encS
 | [] => rfl
 | x :: xs => by rw [List.flatMap_cons, flatS xs]; rfl
def markB : ByteArray := ⟨#[109, 97, 114, 107]⟩
section
variable {k : Nat} {D : CallF} {h : AHeap}
theorem Lend_spec {dl : Slc} {data : List ByteArray} (R : Row encS h dl data) (hl : data.length ≤ 1048576) :
  Gx.Wp (book_Lend k D dl h) fun z => ∃ b, z.1 = ⟨some ⟨b, 0, some 2⟩, data.length, data.length + 1⟩ ∧ Keeps h z.2 ∧ h.next ≤ b ∧ b < z.2.next ∧ z.2.get b = some (.cells ((data ++ [markB]).map encS) 9 true 0) := by
 simp only [book_Lend]
 refine Gx.Wp.new fun H1 k1 n1 g1 => Gx.Wp.bnd (Row.keeps R k1).rdS ?_
 obtain ⟨s7, h7, a7, A7, c7, d7⟩ := (empty0 (w := 1) (enc := encS1) (e := 9) (base := h.next) (h := H1) (b := h.next) (Nat.le_refl _) (by omega)).app encS1_len encS1_one data (bytes := 16) (by decide) (by simp; omega) (by omega)
 rw [flatS] at a7
 rw [show dl.len = data.length from R.1]
 refine Gx.Wp.bnd a7 (Gx.Wp.newE fun H2 e2 k2 n2 g2 => ?_)
 dsimp only at e2 k2 n2 g2 ⊢
 have n7 := c7.nx
 have rd : Gx.rdS 1 (⟨some ⟨h7.next, 0, some 0⟩, 1, 1⟩ : Slc) H2 = some (encS1 markB) := e2 ▸ rdS_oneW encS1_len markB 9
 refine Gx.Wp.bnd rd ?_
 obtain ⟨s9, h9, a9, A9, c9, d9⟩ := (A7.keeps k2).app encS1_len encS1_one [markB] (bytes := 16) (by decide) (by simp; omega) (by omega)
 have a9 : appendA 1 16 9 H2 s7 (encS1 markB) 1 = some (s9, h9) := by simpa using a9
 refine Gx.Wp.bnd a9 ?_
 rw [List.nil_append] at A9
 have n9 := c9.nx
 have k9 : Keeps h h9 := by
  refine Chg.beh (T := fun y => ofS s7 y) ((Chg.beh (T := fun y => ofS (⟨some ⟨h.next, 0, some 0⟩, 0, 0⟩ : Slc) y) k1 c7 fun y hy ⟨a, ha, q⟩ => by cases ha; dsimp only at q; omega).trans k2) c9 fun y hy ⟨a, ha, q⟩ => by have := (A7.lt a ha).2; omega
 rcases A9.st with ⟨_, _, e, _⟩ | ⟨b, e, gb, _⟩
 ·simp at e
 ·have lb := A9.lt ⟨b, 0, some 2⟩ (by rw [e])
  have le : (data ++ [markB]).length = data.length + 1 := by simp
  rw [e, le]
  have sub : Gx.subL 1 (⟨some ⟨b, 0, some (1 + 1)⟩, data.length + 1, data.length + 1⟩ : Slc) none (some (data.length : Int)) none = some ⟨some ⟨b, 0, some 2⟩, data.length, data.length + 1⟩ := by
   simp only [subL, Option.getD_none, Option.getD_some]
   rw [if_pos (by omega)]
   simp only [spOk]
   rw [if_neg (show ¬ ((data.length + 1 : Nat) : Int) = 0 by omega)]
   simp
  refine Gx.Wp.bnd sub (Gx.Wp.of ⟨b, rfl, k9, lb.2, lb.1, ?_⟩)
  rw [gb, flatS]
theorem own_row {b : Nat} {data : List ByteArray} {cap : Nat} (hb : b < h.next) (g : h.get b = some (.cells ((data ++ [markB]).map encS) 9 true 0)) : Row encS h (⟨some ⟨b, 0, some 2⟩, data.length, cap⟩ : Slc) data := by
 refine ⟨rfl, fun i x hx => ⟨⟨b, 0, some 2⟩, _, _, _, _, rfl, hb, g, ?_⟩⟩
 have hi := (List.getElem?_eq_some_iff.1 hx).1
 dsimp only
 rw [Nat.zero_add, List.getElem?_map, List.getElem?_append_left hi, hx]; rfl
theorem Kept_spec {dl : Slc} {data : List ByteArray} {b : Nat} (R : Row encS h dl data) (hl : data.length ≤ 1048576) (hb : b < h.next) (g : h.get b = some (.cells ((data ++ [markB]).map encS) 9 true 0)) (hk : data.length + 2 ≤ k) :
  Gx.Wp (book_Kept k D (⟨some ⟨b, 0, some 2⟩, data.length, data.length + 1⟩ : Slc) dl h) fun z => z.1 = true ∧ z.2 = h := by
 simp only [book_Kept]
 refine .call (sameT_spec D (own_row hb g) R hk (by omega)) fun r1 ⟨q1, p1⟩ => .ifp (by rw [q1]; exact decide_eq_true rfl) ?_
 rw [R.1, Gx.w1 (by omega), p1]
 have sub : Gx.subL 1 (⟨some ⟨b, 0, some 2⟩, data.length, data.length + 1⟩ : Slc) none (some ((data.length + 1 : Nat) : Int)) none = some ⟨some ⟨b, 0, some 2⟩, data.length + 1, data.length + 1⟩ := by
  simp only [subL, Option.getD_none, Option.getD_some]
  rw [if_pos (by omega)]
  simp only [spOk]
  rw [if_neg (show ¬ ((data.length + 1 : Nat) : Int) = 0 by omega)]
  simp
 refine .bnd sub ?_
 have ix : Gx.idxL 1 (⟨some ⟨b, 0, some 2⟩, data.length + 1, data.length + 1⟩ : Slc) (data.length : Int) = some ⟨b, data.length, none⟩ := by
  simp only [idxL]
  rw [if_pos (by omega)]
  simp
 refine .bnd ix (.bnd (ldS_at (m := markB) g ?_) (.of ⟨?_, rfl⟩))
 ·rw [List.getElem?_map, List.getElem?_append_right (Nat.le_refl _), Nat.sub_self]; rfl
 ·show (markB == (⟨#[109, 97, 114, 107]⟩ : ByteArray)) = true
  rw [ba_beq, decide_eq_true (by rfl)]
end
section
variable {k base tb : Nat} {h : AHeap} {sl : Nat → Slc} {F : Nat → List It} {s t : Slc} {xs ys : List It}
theorem same16_spec (D : CallF) (R : RowW 6 itC h s xs) (S : RowW 6 itC h t ys) (hl : xs.length + 2 ≤ k) (hb : xs.length ≤ 1000000000) : Gx.Wp (law16_sameItems k D s t h) fun z => z.1 = decide (xs = ys) ∧ z.2 = h := by
 simp only [law16_sameItems]
 by_cases hc : xs.length = ys.length
 rotate_left
 ·exact .ifp (by rw [R.len, S.len]; simp; omega) (.of ⟨by symm; exact decide_eq_false (fun e => hc (by rw [e])), rfl⟩)
 refine .ifn (by rw [R.len, S.len]; simp; omega) (Gx.Wp.jn fun j2 h2 => ?_)
 unfold law16_sameItems_l0
 obtain ⟨bot, eb⟩ := iterK_of (fun _ _ _ _ => none) (law16_sameItems_l0b k D j2) (show xs.length + 1 ≤ k by omega)
 rw [eb]
 have loop : ∀ (d i : Nat), i + d = xs.length → xs.take i = ys.take i → Gx.Wp (iterK bot (d + 1) (law16_sameItems_l0b k D j2) s t (i : Int) h) fun z => z.1 = decide (xs = ys) ∧ z.2 = h := fun d => by
  induction d with
  | zero =>
   intro i hd ht
   rw [iterK_s]; simp only [law16_sameItems_l0b]
   refine .ifn (by rw [R.len]; simp; omega) ?_
   rw [h2]
   rw [List.take_of_length_le (by omega), List.take_of_length_le (by omega)] at ht
   exact .of ⟨by symm; exact decide_eq_true ht, rfl⟩
  | succ d ih =>
   intro i hd ht
   rw [iterK_s]; simp only [law16_sameItems_l0b]
   obtain ⟨x, hx⟩ := isome (l := xs) (i := i) (by omega)
   obtain ⟨y, hy⟩ := isome (l := ys) (i := i) (by omega)
   obtain ⟨q, b1, b2, _⟩ := R.ld itC_len (by decide) hx
   obtain ⟨q', c1, c2, _⟩ := S.ld itC_len (by decide) hy
   refine .ifp (by rw [R.len]; simp; omega) (.bnd b1 (.bnd b2 (.bnd (decI6 x) (.bnd c1 (.bnd c2 (.bnd (decI6 y) ?_))))))
   rw [eqIt]
   by_cases e : x = y
   ·refine .ifn (by simp [e]) ?_
    rw [Gx.w1 (by omega)]
    refine ih (i + 1) (by omega) ?_
    rw [List.take_add_one, List.take_add_one, ht, hx, hy, e]
   ·refine .ifp (by simp [e]) (.of ⟨?_, rfl⟩)
    symm; refine decide_eq_false (fun e2 => e ?_)
    rw [e2, hy] at hx; exact (Option.some.inj hx).symm
 exact loop xs.length 0 (by omega) rfl
end
noncomputable def fewB (n m : Nat) : Bool := decide ((n ≤ 60 ∨ 4096 < n) ∧ (m ≤ 60 ∨ 4096 < m))
theorem few_spec {k : Nat} (D : CallF) (a b : Slc) (h : AHeap) : Gx.Wp (law16_few k D (a, b) h) fun z => z.1 = fewB a.len b.len ∧ Keeps h z.2 := by
 simp only [law16_few]
 refine Wp.newE fun h1 e1 k1 n1 g1 => ?_
 have l0 : ldL ⟨h.next, 0, none⟩ h1 = some a := sldL_at g1 rfl
 have l1 : ldL ⟨h.next, 1, none⟩ h1 = some b := sldL_at g1 rfl
 unfold fewB
 refine .bnd l1 ?_
 by_cases c : b.len ≤ 60
 ·refine .ifp (by simp; omega) (.bnd l0 ?_)
  by_cases d : a.len ≤ 60
  ·exact .ifp (by simp; omega) (.of ⟨by simp [c, d], k1⟩)
  ·refine .ifn (by simp; omega) (.bnd l0 (.of ⟨?_, k1⟩))
   simp only [decide_eq_decide]; omega
 ·refine .ifn (by simp; omega) (.bnd l1 ?_)
  by_cases c2 : 4096 < b.len
  ·refine .ifp (by simp; omega) (.bnd l0 ?_)
   by_cases d : a.len ≤ 60
   ·exact .ifp (by simp; omega) (.of ⟨by simp [c2, d], k1⟩)
   ·refine .ifn (by simp; omega) (.bnd l0 (.of ⟨?_, k1⟩))
    simp only [decide_eq_decide]; omega
  ·refine .ifn (by simp; omega) (.of ⟨?_, k1⟩)
   symm; exact decide_eq_false (by omega)
end Gc
namespace Gc
open Go Gx
theorem bself (a : ByteArray) : (a == a) = true := by rw [beq_ba]; exact decide_eq_true rfl
noncomputable def decV (s : List UInt8) : List ByteArray × List It × Int := match decF s with | some f => (f.1, f.2, 0) | none => ([], [], 160)
theorem decV_len (s : List UInt8) : (decV s).1.length ≤ 4096 ∧ (decV s).2.1.length ≤ 4096 := by
 unfold decV
 cases e : decF s with
 | none => exact ⟨Nat.zero_le _, Nat.zero_le _⟩
 | some f =>
  obtain ⟨_, _, i3⟩ := decF_inv e
  exact ⟨Nat.le_of_not_lt fun z => i3 (.inl z), Nat.le_of_not_lt fun z => i3 (.inr (.inl z))⟩
theorem dec_view {s : List UInt8} {h : AHeap} {z : ((Slc × Slc) × Int) × AHeap} (H : (∀ f, decF s = some f → z.1.2 = 0 ∧ Row encS z.2 z.1.1.1 f.1 ∧ RowW 6 itC z.2 z.1.1.2 f.2 ∧ (∀ a, z.1.1.1.a = some a → h.next ≤ a.block) ∧ ∀ a, z.1.1.2.a = some a → h.next ≤ a.block) ∧ (decF s = none → z.1 = noF) ∧ Keeps h z.2) :
  z.1.2 = (decV s).2.2 ∧ Row encS z.2 z.1.1.1 (decV s).1 ∧ RowW 6 itC z.2 z.1.1.2 (decV s).2.1 ∧ Keeps h z.2 := by
 obtain ⟨h1, h2, h3⟩ := H
 unfold decV
 cases e : decF s with
 | none =>
  have q := h2 e
  rw [q]
  exact ⟨rfl, Row.nil _ _ _ _, RowW.nil _ _ _ _ _, h3⟩
 | some f =>
  obtain ⟨a, b, c, _⟩ := h1 f e
  exact ⟨a, b, c, h3⟩
theorem spFold_len : ∀ (its : List It) (s : Sp), (its.foldl spStep s).1.length ≤ s.1.length + its.length
 | [], s => Nat.le_refl _
 | x :: its, s => by
  have := spFold_len its (spStep s x)
  have h2 : (spStep s x).1.length ≤ s.1.length + 1 := by
   unfold spStep
   by_cases c : tooB s.2.1 (s.2.2 ++ [x])
   ·rw [if_pos c]; simp
   ·rw [if_neg c]; simp
  simp only [List.foldl_cons, List.length_cons]
  omega
theorem splitR_len (sup : List ByteArray) (its : List It) : (splitR sup its).1.length ≤ its.length + 1 := by
 have h1 : (spAll sup its).1.length ≤ its.length := by
  have := spFold_len its ([], sup, [])
  simpa [spAll] using this
 unfold splitR
 by_cases c : chkF sup its = 0
 ·rw [if_pos c]
  by_cases d : tooB sup []
  ·rw [if_pos d]; exact Nat.zero_le _
  ·rw [if_neg d]; simp; omega
 ·rw [if_neg c]; exact Nat.zero_le _
theorem cut_clip {h : AHeap} {q : Slc} {ys : List It} (S : RowW 6 itC h q ys) (c : Cuts q) (hn : ys ≠ []) : ClipOk q := by
 have hp := List.length_pos_iff.2 hn
 have hl := S.len
 obtain ⟨x, hx⟩ := isome hp
 obtain ⟨a, _, _, _, _, h1, _⟩ := S.at' 0 x hx
 rcases c with z | ⟨z1, z2⟩
 ·omega
 ·exact ⟨fun _ => (by rw [h1]; simp), fun b hb => (by rw [z2 b hb]; rfl), z1⟩
section
variable {k : Nat} {h : AHeap} {fs fi : Slc} {sup : List ByteArray} {its : List It} {s name : ByteArray}
theorem indexWrites_ok (hk : 3000000 ≤ k) (R : Row encS h fs sup) (S : RowW 6 itC h fi its) (cu : Cuts fi) (hs : s.size ≤ 1048576) (hn : name.size ≤ 1048576) (l1 : sup.length ≤ 1048576) (l2 : its.length ≤ 1048576) :
  Gx.Wp (law16_IndexWrites k (DD k) (fs, fi) s name h) fun z => z.1 = true := by
 simp only [law16_IndexWrites]
 refine Wp.newE fun h1 e1 k1 n1 g1 => Gx.Wp.jn fun j7 h7 => ?_
 have ld : ∀ {H : AHeap}, Keeps h1 H → ldA 2 ⟨h.next, 0, none⟩ H = some [.slice fs.a fs.len fs.cap, .slice fi.a fi.len fi.cap] := fun kk => sldA_at (kk.got (by omega) g1) rfl
 have l0 : ∀ {H : AHeap}, Keeps h1 H → ldL ⟨h.next, 0 + 0, none⟩ H = some fs := fun kk => sldL_at (kk.got (by omega) g1) rfl
 have l1' : ∀ {H : AHeap}, Keeps h1 H → ldL ⟨h.next, 0 + 1, none⟩ H = some fi := fun kk => sldL_at (kk.got (by omega) g1) rfl
 have dc : ∀ (a b : Slc), decC [.l, .l] [.slice a.a a.len a.cap, .slice b.a b.len b.cap] = some (a, b) := fun _ _ => rfl
 have main : ∀ y H, Keeps h1 H → Gx.Wp (j7 s name (some ⟨h.next, 0, none⟩) y H) fun z => z.1 = true := fun y H kH => by
  rw [h7]
  by_cases hy : y = true
  ·exact .ifp hy (.call (works16 (by omega) H) fun r ⟨q, _⟩ => .of q)
  refine .ifn hy (.bnd rfl (.bnd (l0 kH) (.bnd rfl (.bnd (l1' kH) (Wp.newE fun h13 e13 k13 n13 g13 => Wp.stL g13 rfl rfl rfl (by decide) fun h14 c14 n14 g14 => ?_)))))
  have nH := kH.nx
  have k14 : Keeps H h14 := k13.keepsS c14 fun y hy => by subst hy; omega
  obtain ⟨h15, e15⟩ : ∃ h15, h15 = AHeap.resv h14 2 := ⟨_, rfl⟩
  rw [← e15]
  have k15' : Keeps h14 h15 := ⟨by rw [e15]; show h14.next ≤ h14.next + 2; omega, fun b hb _ => by rw [e15]; rfl⟩
  have n15 : h15.next = h14.next + 2 := by rw [e15]; rfl
  have k15 : Keeps h1 h15 := (kH.trans k14).trans k15'
  refine .bnd rfl (.bnd (l0 k15) (.call (Lend_spec (R.keeps (k1.trans k15)) (by omega)) fun r18 ⟨b, q18, k18, b1, b2, g18⟩ => ?_))
  have n18 := k18.nx
  have k18a : Keeps h14 r18.2 := k15'.trans k18
  obtain ⟨h19, e19⟩ : ∃ h19, h19 = AHeap.set r18.2 (h14.next + 0) (.cells [] 57 true 0) := ⟨_, rfl⟩
  have c19 : Chg (· = h14.next + 0) r18.2 h19 := by rw [e19]; exact Chg.set (.inr rfl)
  have k19 : Keeps h14 h19 := by rw [e19]; exact Keeps.set k18a (by omega)
  have n19 : h19.next = r18.2.next := by rw [e19]; rfl
  have g19 : h19.get (h14.next + 0) = some (.cells [] 57 true 0) := by rw [e19]; simp
  have gb19 := c19.got b2 (by omega) g18
  have k119 : Keeps h1 h19 := (kH.trans k14).trans k19
  have S19 := S.keeps (k1.trans k119)
  obtain ⟨s24, h24, a24, O24, k24, p24⟩ := own_first (base := h14.next) (ys := its) S19.len (by omega) g19 (by omega) (by omega)
  have n24 := k24.nx
  refine .bnd rfl ?_
  rw [← e19]
  refine .bnd (l1' k119) (.gp (fun HH hH => ?_) (.bnd (Gc.RowW.rdAll S19 itC_len (by decide)) (.bnd a24 ?_)))
  ·simp only [List.mem_cons, List.not_mem_nil, or_false] at hH
   dsimp only
   rcases hH with z | z
   ·rw [z, l1' (k15.trans k18)]; rfl
   ·rw [z, l1' k15]; rfl
  obtain ⟨h26, e26⟩ : ∃ h26, h26 = AHeap.set h24 (h14.next + 1) (.cells [.slice none 0 0, .slice none 0 0] 25 true 0) := ⟨_, rfl⟩
  dsimp only
  rw [← e26]
  have g26 : h26.get (h14.next + 1) = some (.cells [.slice none 0 0, .slice none 0 0] 25 true 0) := by rw [e26]; simp
  have n26 : h26.next = h24.next := by rw [e26]; rfl
  have c26 : Chg (· = h14.next + 1) h24 h26 := by rw [e26]; exact Chg.set (.inr rfl)
  refine Wp.stL g26 rfl rfl rfl (by decide) fun h27 c27 n27 g27 => ?_
  have c2427 : Chg (· = h14.next + 1) h24 h27 := Chg.trans c26 c27
  have n2427 := c2427.nx
  have k27 : Keeps h14 h27 := (k19.trans k24).keepsS c2427 fun y hy => by subst hy; omega
  have gb27 := c2427.got (by omega) (by omega) (k24.got (by omega) gb19)
  have O27 := O24.chg c2427 fun a ha z => by have := p24 a ha; have z' : a.block = h14.next + 1 := z; omega
  have g27g := k27.got (by omega) g14
  have k127 : Keeps h1 h27 := (kH.trans k14).trans k27
  have rw27 : Row encS h27 r18.1 sup := by rw [q18]; exact own_row (by omega) gb27
  have S27 := O27.row
  refine .bnd (sldA_at g27 rfl) (.bnd (dc r18.1 s24) (.call (encode_spec (by omega) rw27 S27 (by omega) (by omega)) fun r30 ⟨q30, k30⟩ => ?_))
  refine .bnd (sldA_at (k30.got (by omega) g27g) rfl) (.bnd (dc fs fi) (.call (rencode_spec (DD k) (by omega) (R.keeps (k1.trans (k127.trans k30))) (S.keeps (k1.trans (k127.trans k30))) (by omega) (by omega)) fun r33 ⟨q33, k33⟩ => Gx.Wp.jn fun j41 h41 => ?_))
  have k2733 : Keeps h27 r33.2 := k30.trans k33
  have k133 : Keeps h1 r33.2 := k127.trans k2733
  have gO : r33.2.get (h14.next + 1) = _ := k2733.got (by omega) g27
  have gB := k2733.got (by omega) gb27
  have nB := k2733.nx
  refine .ifn (by rw [q30, q33, bself]; decide) (.ifn (by rw [q30, q33]; simp) (.bnd (sldL_at gO rfl) (.bnd rfl (.bnd (l0 k133) ?_))))
  have kept := Kept_spec (k := k) (D := DD k) (R.keeps (k1.trans k133)) (by omega) (by omega) gB (by omega)
  rw [← q18] at kept
  refine .call kept fun r82 ⟨q82, p82⟩ => .ifn (by rw [q82]; decide) ?_
  rw [p82]
  refine .bnd (sldL_at gO rfl) (.bnd rfl (.bnd (l1' k133) (.call (same16_spec (DD k) (S27.keeps k2733) (S.keeps (k1.trans k133)) (by omega) (by omega)) fun r86 ⟨q86, p86⟩ => ?_)))
  rw [h41, p86]
  refine .ifn (by rw [q86]; simp) (Gx.Wp.jn fun j45 h45 => ?_)
  have tail : ∀ H2, Keeps h1 H2 → Gx.Wp (j45 s name H2) fun z => z.1 = true := fun H2 _ => by
   rw [h45]
   refine .call (decode_spec (by omega) s H2) fun r46 q46 => ?_
   obtain ⟨u1, u2, u3, u4⟩ := dec_view q46
   refine Wp.newE fun h47 e47 k47 n47 g47 => Wp.stL g47 rfl rfl rfl (by decide) fun h48 c48 n48 g48 => ?_
   have k48 : Keeps r46.2 h48 := k47.keepsS c48 fun y hy => by subst hy; omega
   refine .call (rdecode_spec (DD k) (by omega) s h48) fun r49 q49 => ?_
   obtain ⟨v1, v2, v3, v4⟩ := dec_view q49
   refine Wp.newE fun h50 e50 k50 n50 g50 => Wp.stL g50 rfl rfl rfl (by decide) fun h51 c51 n51 g51 => ?_
   have n49 := v4.nx
   have k51 : Keeps r49.2 h51 := k50.keepsS c51 fun y hy => by subst hy; omega
   refine .call (idof_spec (DD k) name (by omega) (by omega) h51) fun r52 ⟨q52, k52⟩ => .call (ridof_spec (DD k) name (by omega) (by omega) r52.2) fun r53 ⟨q53, k53⟩ => ?_
   have k5153 : Keeps h51 r53.2 := k52.trans k53
   have gA := k5153.got (by omega) (k51.got (by omega) (v4.got (by omega) g48))
   have gC := k5153.got (by omega) g51
   have kA : Keeps r46.2 r53.2 := ((k48.trans v4).trans k51).trans k5153
   have kC : Keeps r49.2 r53.2 := k51.trans k5153
   obtain ⟨d1, d2⟩ := decV_len (bl s)
   refine .bnd (sldL_at gA rfl) (.bnd (sldL_at gC rfl) (.call (sameT_spec (DD k) (u2.keeps kA) (v2.keeps kC) (by omega) (by omega)) fun r56 ⟨q56, p56⟩ => .ifp (by rw [q56]; simp) ?_))
   rw [p56]
   refine .bnd (sldL_at gA rfl) (.bnd (sldL_at gC rfl) (.call (same16_spec (DD k) (u3.keeps kA) (v3.keeps kC) (by omega) (by omega)) fun r59 ⟨q59, p59⟩ => .ifp (by rw [q59]; simp) (.ifp (by rw [u1, v1]; simp) (.ifp (by rw [q52, q53, bself]) (.ifp (by rw [q52, q53]; simp) ?_)))))
   refine .call (name_spec (DD k) s (by omega) (by omega) r59.2) fun r60 ⟨q60, k60⟩ => .call (rname_spec (DD k) s (by omega) (by omega) r60.2) fun r61 ⟨q61, k61⟩ => .ifp (by rw [q60, q61, bself]) (.call (works16 (by omega) r61.2) fun r62 ⟨q62, _⟩ => .of q62)
  refine .bnd rfl (.bnd (l1' k133) ?_)
  have fl : fi.len = its.length := S.len
  by_cases c60 : its.length ≤ 60
  rotate_left
  ·exact .ifn (by rw [fl]; simp; omega) (tail _ k133)
  refine .ifp (by rw [fl]; simp; omega) (.bnd rfl (.bnd (sldA_at gO rfl) (.bnd (dc r18.1 s24) (.call (split_spec (by omega) (rw27.keeps k2733) (S27.keeps k2733) (by omega) (by omega) (by omega) (fun a ha => by rw [q18] at ha; cases ha; show b < _; omega)) fun r68 ⟨q68, t68, k68⟩ => ?_))))
  have gG := k68.got (by omega) (k2733.got (by omega) g27g)
  have k168 := k133.trans k68
  refine .bnd rfl (.bnd (sldA_at gG rfl) (.bnd (dc fs fi) (.call (rsplit_spec (DD k) (by omega) (R.keeps (k1.trans k168)) (S.keeps (k1.trans k168)) (cut_clip S cu) (by omega) (by omega) (by omega)) fun r72 ⟨q72, t72, k72⟩ => Gx.Wp.jn fun j77 h77 => ?_)))
  have sl := splitR_len sup its
  refine .call (sameT_spec (DD k) (t68.keeps k72) t72 (by omega) (by omega)) fun r78 ⟨q78, p78⟩ => .ifn (by rw [q78]; simp) ?_
  rw [h77, p78]
  exact .ifn (by rw [q68, q72]; simp) (tail _ (k168.trans k72))
 refine .bnd (ld (.refl _ _)) (.bnd (dc fs fi) (.call (few_spec (DD k) fs fi h1) fun r89 ⟨_, k89⟩ => ?_))
 by_cases f : r89.1 = true
 ·refine .ifn (by rw [f]; decide) ?_
  by_cases g : 10000 < s.size
  ·exact .ifp (by simp; omega) (main _ _ k89)
  ·exact .ifn (by simp; omega) (main _ _ k89)
 ·exact .ifp (by simpa using f) (main _ _ k89)
end
end Gc
namespace Gc
open Go Gx Go.RowKit Go.WideShapes Go.ChangeShapes
theorem sumL_len {T : DT} (hT : ∀ v, 1 ≤ szV T v) : ∀ l : List T.V, l.length ≤ szV.sumL (l.map (szV T))
 | [] => Nat.zero_le _
 | x :: l => by
  have := sumL_len hT l
  have := hT x
  simp only [List.map_cons, szV.sumL, List.length_cons]
  omega
theorem open_file {H : Type} {enc : TypeId × Value → H} {P : Program} {w : World} {G : Nat} {μ : BMap} {h : AHeap} (S : Start w μ h G) {t e : TypeId} {d : Nat} {fs : Array Field} {f1 : Field}
  (hk : P.underlying t = some (.struct fs)) (hT : shapeOf P d t = some (.pair (.list .str) (.pair (.list ItD) .unit))) (hf1 : fs[1]? = some f1) (ho : f1.offset = 1) (hu : P.underlying f1.type = some (.slice e)) (hc : P.cellsOf f1.type = 1)
  {r : Reach} {base : Nat} {v : Value} {dd : DataW H} {ps : List MemPlace} (hval : Value.okWide P w r base t v) (hd : DataW.Trod enc P w 0 (fun _ => true) true t v dd ps) :
  ∃ μ' h' a b, ∃ (xs : List ByteArray) (ys : List It), More w μ h μ' h' G ∧ VR μ' (.agg ⟨[.slice a.a a.len a.cap, .slice b.a b.len b.cap]⟩) v ∧ Row encS h' a xs ∧ RowW 6 itC h' b ys ∧ Cuts b ∧ xs.length ≤ bulkD dd ∧ ys.length ≤ bulkD dd := by
 obtain ⟨μ', h', ⟨xs, ys, u⟩, cs, m, vr, rep, sz⟩ := S.dataB hT hd
 obtain ⟨c1, c2, rfl, r1, c3, c4, rfl, r2, e5⟩ := rep
 have e5' : c4 = [] := e5
 subst e5'
 obtain ⟨a, rfl, _⟩ : ∃ a : Slc, c1 = [.slice a.a a.len a.cap] ∧ True := by obtain ⟨a, ea, _⟩ := r1; exact ⟨a, ea, trivial⟩
 obtain ⟨b, rfl, _⟩ : ∃ b : Slc, c3 = [.slice b.a b.len b.cap] ∧ True := by obtain ⟨b, eb, _⟩ := r2; exact ⟨b, eb, trivial⟩
 obtain ⟨c, rfl, _⟩ := okWide_struct hk hval
 obtain ⟨v0, t0, e0, q1, q2⟩ := vr.cons_inv
 obtain ⟨v1, t1, e1, q3, q4⟩ := q2.cons_inv
 have e1' : t1 = [] := q4.nil_inv
 subst e1'
 have ec : c.toList = [v0, v1] := by
  have : (Value.cells (.agg c)).toList = c.toList := rfl
  rw [← this, e0, e1]
 have sl1 : ∀ (z : Slc), VR μ' (.slice z.a z.len z.cap) v1 → ∃ a1 n1 m1, v1 = .slice a1 n1 m1 := fun ⟨za, zl, zc⟩ q => by
  cases q <;> exact ⟨_, _, _, rfl⟩
 obtain ⟨a1, n1, m1, rfl⟩ := sl1 b q3
 have cap : n1 ≤ m1 := by
  obtain ⟨fuel, hf⟩ := hd
  obtain ⟨xs', mm, _, _, hl, hxl, hall⟩ := DataW.trod_struct hk hf
  have h1 := hall 1 f1 hf1
  have hlen : 1 < xs'.length := by
   rw [hxl]
   exact (Array.getElem?_eq_some_iff.1 hf1).1
  obtain ⟨x, hx⟩ := isome hlen
  rw [hx, ho, hc, show (Value.cells (.agg c)).toList = c.toList from rfl, ec] at h1
  exact trod_cap hu (dd := x.1) (ps := x.2) ⟨_, h1⟩
 obtain ⟨b', vr', f1', f2, f3, cu⟩ := q3.clean cap
 have R1 := Rep.rowS r1
 obtain ⟨R2, _⟩ := rep_items r2
 refine ⟨μ', h', a, b', xs, ys.map toIt, m, ?_, R1, ⟨f1'.trans R2.len, fun i x hx => ?_⟩, cu, ?_, ?_⟩
 ·have := VR.agg_list (VRs.cons q1 (VRs.cons vr' (VRs.nil _)))
  have e : c = ⟨[v0, .slice a1 n1 m1]⟩ := by
   cases c
   congr 1
  rw [e]
  exact this
 ·obtain ⟨a', cc, e, r, fz, g1, g2, g3, g4⟩ := R2.at' i x hx
  obtain ⟨b2, w1, w2, w3⟩ := f3 a' g1
  exact ⟨b2, cc, e, r, fz, w1, w2 ▸ g2, w2 ▸ g3, fun j v hj => w3 ▸ g4 j v hj⟩
 ·have e1 := sumL_len (T := .str) (fun v => Nat.le_add_left 1 _) xs
  have e2 : (szV.sumL (xs.map (szV .str)) + 1) + (szV (.list ItD) ys + 0) ≤ bulkD dd := sz
  omega
 ·have e1 := sumL_len (T := ItD) (fun v => Nat.le_trans (Nat.le_add_left 1 _) (Nat.le_add_right _ _)) ys
  have e2 : szV (.list .str) xs + ((szV.sumL (ys.map (szV ItD)) + 1) + 0) ≤ bulkD dd := sz
  rw [List.length_map]
  omega
end Gc
