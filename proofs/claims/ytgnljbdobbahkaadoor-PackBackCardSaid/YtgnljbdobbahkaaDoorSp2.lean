import Derived.Test.YtgnljbdobbahkaaDoorSp1
namespace Ge
open Go Gx
theorem bstr {k pb o base : Nat} {H : AHeap} {c : List Value} {e : TypeId} {s : Slc} {l : List UInt8} (D : CallF) (g : H.get pb = some (.cells c e true 0)) (hs : c[o + 1]? = some (.slice s.a s.len s.cap)) (A : Acc encB 5 base H s l) (hl : l.length < 9223372036854775808) :
  Gx.Wp (strings_Builder_String k D (some ⟨pb, o, none⟩) H) fun z => z.1 = bA l ∧ Chg (ofS s) H z.2 ∧ z.2.next = H.next := by
 simp only [strings_Builder_String]
 have hsl : s.len = l.length := A.row.1
 have gl : ldL ⟨pb, o + 1, none⟩ H = some s := sldL_at g hs
 rcases A.st with ⟨rfl, rfl⟩ | ⟨b, gg⟩
 ·refine .bnd rfl (.bnd gl (.bnd rfl (.bnd rfl (.bnd gl (.bnd (show unsA 5 none ((0 : Nat) : Int) H = some (⟨#[]⟩, H) from rfl) (.of ⟨rfl, .refl _ _, rfl⟩))))))
 ·have gb : H.get b = some (.cells (l.map encB) 5 true 0) := gg.blk
  have hp : 0 < l.length := List.length_pos_iff.2 gg.ne
  have e1 : sliceP s = some (some ⟨b, 0, none⟩) := by
   rw [gg.s]
   unfold sliceP
   have : Nat.beq l.length 0 = false := by
    cases c : Nat.beq l.length 0 with
    | false => rfl
    | true => have := Nat.eq_of_beq_eq_true c; omega
   simp only [this, cond_false]
  have e2 : unsA 5 (some ⟨b, 0, none⟩) (s.len : Int) H = some (bA l, H.set b (.cells (l.map encB) 5 true (max 0 l.length))) := by
   unfold unsA
   rw [hsl, if_neg (by omega)]
   simp only [gb]
   rw [if_pos ⟨trivial, by omega, by omega, trivial, by simp, by omega⟩, Int.toNat_natCast, List.take_of_length_le (by simp), unbytesS_map]
   rfl
  exact .bnd rfl (.bnd gl (.bnd e1 (.bnd rfl (.bnd gl (.bnd e2 (.of ⟨rfl, Chg.set (.inr ⟨⟨b, 0, some 2⟩, by rw [gg.s], rfl⟩), rfl⟩))))))
def endB : List UInt8 := [80, 69, 78, 68]
def dirB (q : PSt) : List UInt8 := leb q.2.2.1.length ++ q.2.1
def finB (q : PSt) : List UInt8 := q.1 ++ (dirB q ++ (Ge.B.fixL (dirB q).length 4 ++ endB))
def setP (id : ByteArray) (x : It) : It := (x.1, id, x.2.2)
noncomputable def finI (q : PSt) : List It := q.2.2.1.map (setP ⟨⟨digest (finB q)⟩⟩)
theorem flat_setP (id : ByteArray) : ∀ (xs : List It) (i : Nat) (x : It), xs[i]? = some x → (xs.flatMap itC).set (i * 6 + 1) (.string id) = (xs.set i (setP id x)).flatMap itC
 | [], i, x, h => by simp at h
 | y :: ys, 0, x, h => by simp at h; subst h; rfl
 | y :: ys, i + 1, x, h => by
  rw [List.flatMap_cons, List.set_cons_succ, List.flatMap_cons, List.set_append_right _ _ (by rw [itC_len]; omega), itC_len, show (i + 1) * 6 + 1 - 6 = i * 6 + 1 by omega, flat_setP id ys i x (by simpa using h)]
section
variable {k pb mb : Nat} {H H' : AHeap} {s1 s2 si : Slc} {lim : Int} {q : PSt}
theorem fin_loop (D : CallF) {j20 : (Option Addr) → ByteArray → Slc → AHeap → Option ((ByteArray × Slc) × AHeap)} {Q : (ByteArray × Slc) × AHeap → Prop} {b : Option Addr} {s id : ByteArray} {h0 : AHeap} {ib : Nat} {its : List It} (hl : its.length ≤ 100000) (bot) :
  ∀ (d i : Nat) (H : AHeap), i + d = its.length → H.get ib = some (.cells (((its.take i).map (setP id) ++ its.drop i).flatMap itC) 57 true 0) → Chg (· = ib) h0 H → H.next = h0.next →
  (∀ H', H'.get ib = some (.cells ((its.map (setP id)).flatMap itC) 57 true 0) → Chg (· = ib) h0 H' → H'.next = h0.next → Gx.Wp (j20 b s ⟨some ⟨ib, 0, some 7⟩, its.length, its.length⟩ H') Q) →
  Gx.Wp (iterK bot (d + 1) (pack_Builder_Finish_l0b k D j20) b s ⟨some ⟨ib, 0, some 7⟩, its.length, its.length⟩ id (its.length : Int) (i : Int) H) Q := by
 intro d
 induction d with
 | zero =>
  intro i H hd g c n J
  rw [iterK_s]; simp only [pack_Builder_Finish_l0b]
  refine .ifn (by simp; omega) (J H ?_ c n)
  rw [List.take_of_length_le (by omega), List.drop_of_length_le (by omega), List.append_nil] at g
  exact g
 | succ d ih =>
  intro i H hd g c n J
  rw [iterK_s]; simp only [pack_Builder_Finish_l0b]
  obtain ⟨x, hx⟩ := isome (l := its) (i := i) (by omega)
  have ei : idxL 6 (⟨some ⟨ib, 0, some 7⟩, its.length, its.length⟩ : Slc) (i : Int) = some ⟨ib, i * 6, none⟩ := by
   simp only [idxL]
   rw [if_pos (by omega), Int.toNat_natCast, Nat.zero_add]
  refine .ifp (by simp; omega) (.bnd ei ?_)
  have hL : ((its.take i).map (setP id) ++ its.drop i)[i]? = some x := by
   have l1 : ((its.take i).map (setP id)).length = i := by rw [List.length_map, List.length_take]; omega
   rw [List.getElem?_append_right (by rw [l1]; exact Nat.le_refl _), l1, Nat.sub_self, List.getElem?_drop, Nat.add_zero]
   exact hx
  have hset := flat_setP id _ i x hL
  have hn : ((its.take i).map (setP id) ++ its.drop i).set i (setP id x) = (its.take (i + 1)).map (setP id) ++ its.drop (i + 1) := by
   have l1 : ((its.take i).map (setP id)).length = i := by rw [List.length_map, List.length_take]; omega
   rw [List.set_append_right _ _ (by rw [l1]; exact Nat.le_refl _), l1, Nat.sub_self, dropc hx, List.set_cons_zero, List.take_add_one, hx, List.map_append, List.append_assoc]
   rfl
  refine Wp.st g ?_ rfl fun H1 c1 n1 g1 => ?_
  ·rw [flatW_length itC_len, List.length_append, List.length_map, List.length_take, List.length_drop]
   show i * 6 + 1 + 0 < _
   rw [show min i its.length + (its.length - i) = its.length by omega]; omega
  ·rw [Nat.add_zero, hset, hn] at g1
   rw [Gx.w1 (by omega)]
   exact ih (i + 1) H1 (by omega) g1 (c.trans c1) (by omega) J
theorem finish_spec (B : PB H pb mb s1 s2 si lim q) (D : CallF) (kg : KG 0 H) (hp : 0 < pb) (hk : 1200000 ≤ k) (hq1 : q.1.length ≤ 65536) (hq2 : q.2.1.length ≤ 65536) (hq3 : q.2.2.1.length ≤ 4096) :
  Gx.Wp (pack_Builder_Finish k D (some ⟨pb, 0, none⟩) H) fun z =>
   if q.2.2.1 = [] then z.1 = (⟨#[]⟩, ⟨none, 0, 0⟩) ∧ z.2 = H
   else z.1 = (⟨⟨finB q⟩⟩, si) ∧ AccW 6 itC 57 (pb + 1) z.2 si (finI q) ∧ (∃ mb' s1', PB z.2 pb mb' s1' ⟨none, 0, 0⟩ ⟨none, 0, 0⟩ lim st0P) ∧ Chg (OwnP pb mb s1 s2 si) H z.2 := by
 simp only [pack_Builder_Finish]
 have sil : si.len = q.2.2.1.length := (B.A3.row itC_len).len
 refine .bnd rfl (.bnd B.ld3 ?_)
 rw [sil]
 by_cases c0 : q.2.2.1 = []
 ·refine .ifp (by rw [c0]; rfl) (.of ?_)
  rw [if_pos c0]; exact ⟨rfl, rfl⟩
 have hlen : 0 < q.2.2.1.length := List.length_pos_iff.2 c0
 refine .ifn (fun w => absurd (eq_of_beq w) (by omega)) ?_
 suffices hh : Gx.Wp _ fun z : (ByteArray × Slc) × AHeap => z.1 = (⟨⟨finB q⟩⟩, si) ∧ AccW 6 itC 57 (pb + 1) z.2 si (finI q) ∧ (∃ mb' s1', PB z.2 pb mb' s1' ⟨none, 0, 0⟩ ⟨none, 0, 0⟩ lim st0P) ∧ Chg (OwnP pb mb s1 s2 si) H z.2 from hh.mono fun z hz => by rw [if_neg c0]; exact hz
 refine .bnd rfl (.bnd B.ld3 ?_)
 rw [sil]
 have ll : (leb q.2.2.1.length).length ≤ 4 := leb_len 3 _ (by omega)
 refine .call (pshort_spec D (by omega) q.2.2.1.length (by omega) H) fun r5 ⟨q5, k5⟩ => ?_
 have B5 := B.keeps k5
 obtain ⟨p1, p2, g5, h1, h2⟩ := B5.g
 refine .bnd rfl (.call (bstr (o := 3) D g5 rfl B5.A2 (by omega)) fun r7 ⟨q7, c7, n7⟩ => ?_)
 have lt5 := B5.lt
 have g7 := c7.got lt5 (fun ⟨a, ha, e⟩ => by have := (B5.A2.lt a ha).2; omega) g5
 have A17 : Acc encB 5 (pb + 1) r7.2 s1 q.1 := B5.A1.chg c7 fun a ha ⟨b, hb, e⟩ => B5.ap a b ha hb e
 have A37 : AccW 6 itC 57 (pb + 1) r7.2 si q.2.2.1 := B5.A3.chg c7 fun a ha => B5.ne13 B5.A2 ha
 have ed : r5.1 ++ r7.1 = ⟨⟨dirB q⟩⟩ := by rw [q5, q7]; exact Ge.B.ba_app _ _
 have ld : (dirB q).length = (leb q.2.2.1.length).length + q.2.1.length := List.length_append
 refine .ifp (by rw [q5, q7]; show (leb q.2.2.1.length).length + q.2.1.length ≤ _; omega) ?_
 rw [ed, show (⟨⟨dirB q⟩⟩ : ByteArray).size = (dirB q).length from size_mk _]
 obtain ⟨h8, e8, k8⟩ := Ge.B.nfix_spec (kf := k) (by omega) D (dirB q).length 4 r7.2 (by omega) (by omega) (by omega)
 rw [if_pos (by omega)] at e8
 refine .bnd e8 ?_
 have g8 := k8.got (by omega) g7
 have A18 := A17.keeps k8
 have A38 := A37.keeps k8
 refine .bnd rfl (.call (bstr (o := 0) D g8 rfl A18 (by omega)) fun r10 ⟨q10, c10, n10⟩ => ?_)
 have n8 := k8.nx
 have n10 : r10.2.next = h8.next := n10
 have n8' : r7.2.next ≤ h8.next := n8
 have g10 := c10.got (show pb < h8.next by omega) (fun ⟨a, ha, e⟩ => by have := (A18.lt a ha).2; omega) g8
 have A310 : AccW 6 itC 57 (pb + 1) r10.2 si q.2.2.1 := A38.chg c10 fun a ha ⟨b, hb, e⟩ => by
  obtain ⟨c1, g1⟩ := acc_cells A18 hb
  obtain ⟨c2, g2⟩ := accW_cells A38 ha
  rw [e, g1] at g2; cases g2
 have fl : (Ge.B.fixL (dirB q).length 4).length = 4 := Ge.B.fixL_length _ _
 have ef : ((r10.1 ++ (⟨⟨dirB q⟩⟩ : ByteArray)) ++ (⟨⟨Ge.B.fixL (dirB q).length 4⟩⟩ : ByteArray)) ++ (⟨#[80, 69, 78, 68]⟩ : ByteArray) = ⟨⟨finB q⟩⟩ := by
  rw [q10]
  apply bl_inj
  rw [bl_mk]
  unfold finB
  simp [bl, bA, endB]
 refine .ifp (by rw [q10]; show q.1.length + (dirB q).length ≤ _; omega) (.ifp (by rw [q10, ByteArray.size_append]; show q.1.length + (dirB q).length + (Ge.B.fixL (dirB q).length 4).length ≤ _; omega)
  (.ifp (by rw [q10, ByteArray.size_append, ByteArray.size_append]; show q.1.length + (dirB q).length + (Ge.B.fixL (dirB q).length 4).length + 4 ≤ _; omega) ?_))
 dsimp only
 rw [ef]
 have lF : (finB q).length = q.1.length + ((dirB q).length + (4 + 4)) := by unfold finB; simp only [List.length_append, fl]; rfl
 refine Wp.newE fun h12 e12 k12 n12 g12 => ?_
 have R12 : Row encS h12 ⟨some ⟨r10.2.next, 0, some 0⟩, 1, 1⟩ [⟨⟨finB q⟩⟩] := Row.of_block (enc := encS) (xs := [⟨⟨finB q⟩⟩]) g12 (by omega) fun i z hz => by
  match i with
  | 0 => simp at hz; subst hz; rfl
  | i + 1 => simp at hz
 have kg12 : KG 0 h12 := by
  refine KG.chg (KG.chg (KG.chg (KG.chg (KG.chg kg k5 fun f => f) c7 fun ⟨a, ha, e⟩ => ?_) k8 fun f => f) c10 fun ⟨a, ha, e⟩ => ?_) k12 fun f => f
  ·have := (B5.A2.lt a ha).2; omega
  ·have := (A18.lt a ha).2; omega
 have ec : Ge.B.catL [(⟨⟨finB q⟩⟩ : ByteArray)] = finB q := by simp [Ge.B.catL, bl]
 refine .call (Ge.B.sum_spec (by omega) D kg12 R12 (by rw [ec]; omega) (by rw [ec]; omega) (by simp; omega) (by simp)) fun r13 ⟨q13, k13⟩ => ?_
 rw [ec] at q13
 have g13 := Keeps.got (k12.trans k13) (by omega) g10
 have A313 := A310.keeps (k12.trans k13)
 refine .bnd rfl (.bnd (sldL_at g13 rfl) (Wp.jn fun j20 h20 => ?_))
 rw [q13, show (⟨si.a, si.len, si.cap⟩ : Slc) = si from rfl, sil]
 rcases A313.st with ⟨_, w⟩ | ⟨ib, e1, e2, e3⟩
 ·exact absurd w c0
 have hib := A313.lt ⟨ib, 0, some 7⟩ (by rw [e1])
 rw [e1]
 unfold pack_Builder_Finish_l0
 obtain ⟨bot, eb⟩ := iterK_of (fun _ _ _ _ _ _ _ => none) (pack_Builder_Finish_l0b k D j20) (show q.2.2.1.length + 1 ≤ k by omega)
 rw [eb, show (0 : Int) = ((0 : Nat) : Int) from rfl]
 have n12' := k12.nx
 have n13 := k13.nx
 refine fin_loop D (h0 := r13.2) (by omega) bot q.2.2.1.length 0 r13.2 (by omega) (by rw [List.take_zero, List.map_nil, List.nil_append, List.drop_zero]; exact e2) (Chg.refl _ _) rfl fun H' g' c' n' => ?_
 rw [h20]
 have gp := c'.got (by omega) (by have := hib.2; show ¬ pb = ib; simp only [] at this; omega) g13
 refine .call (empty_spec (lim := lim) D gp (by omega) rfl) fun r21 ⟨mb', s1', B', c21⟩ => .of ⟨rfl, ⟨.inr ⟨ib, by simp [finI], ?_, by simp [finI, c0]⟩, fun a ha => ?_⟩, ⟨mb', s1', B'⟩, ?_⟩
 ·have hib2 := hib.2
  simp only [] at hib2
  exact c21.got (by have := hib.1; simp only [] at this; omega) (show ¬ ib = pb by omega) g'
 ·cases ha
  have n21 := c21.nx
  have := hib.1; have := hib.2
  simp only [] at *
  omega
 ·exact ((((((Chg.keeps k5).trans (c7.wk fun y _ w => .inr (.inr (.inr (.inl w))))).trans (Chg.keeps k8)).trans (c10.wk fun y _ w => .inr (.inr (.inl w)))).trans (Chg.keeps (k12.trans k13))).trans (c'.wk fun y _ w => .inr (.inr (.inr (.inr ⟨⟨ib, 0, some 7⟩, rfl, w⟩))))).trans (c21.wk fun y _ w => .inl w)
end
end Ge
namespace Ge
open Go Gx
section
variable {k : Nat} {h : AHeap}
def q14 : PSt := addQ st0P 1 ⟨#[97, 98]⟩
theorem enc_ab : encP 1 (bl ⟨#[97, 98]⟩) = [1, 2, 97, 98] := by decide +kernel
theorem leb1 : (leb 1).length = 1 := by rw [leb_lt (by omega)]; rfl
theorem leb4 : (leb 4).length = 1 := by rw [leb_lt (by omega)]; rfl
theorem leb2 : (leb 2).length = 1 := by rw [leb_lt (by omega)]; rfl
theorem line_ab : (lineA 1 ⟨#[97, 98]⟩).length = 35 := by
 unfold lineA lineP
 rw [enc_ab]
 simp only [List.length_append, List.length_cons, List.length_nil]
 have e : (bl (idB 1 (bl ⟨#[97, 98]⟩))).length = 32 := rfl
 have e2 : (⟨#[97, 98]⟩ : ByteArray).size = 2 := rfl
 rw [e, e2, leb4, leb2]
theorem add_ab : addV 64 st0P 1 ⟨#[97, 98]⟩ = ((idB 1 (bl ⟨#[97, 98]⟩), 0), q14) := by
 have hL : longA st0P 1 ⟨#[97, 98]⟩ = 53 := by
  unfold longA longP
  rw [line_ab, enc_ab]
  show 5 + (leb 1).length + 0 + (4 + 35) + 8 = 53
  rw [leb1]
 have hT : tooP 64 st0P 1 ⟨#[97, 98]⟩ = false := by
  unfold tooP
  refine decide_eq_false ?_
  rw [hL]
  show ¬ ((64 < ((53 : Nat) : Int) ∧ 0 < 0) ∨ 65536 < 53 ∨ 4096 ≤ 0)
  decide
 have hN : lkM (idB 1 (bl ⟨#[97, 98]⟩)) st0P.2.2.2 = none := rfl
 unfold addV
 rw [hN]
 simp only []
 rw [hT, if_neg (by decide)]; rfl
theorem fin_ab : (finB q14).length = 53 := by
 unfold finB dirB
 simp only [List.length_append, Ge.B.fixL_length]
 have e1 : q14.1.length = 9 := by
  show (magicB ++ encP 1 (bl ⟨#[97, 98]⟩)).length = 9
  rw [enc_ab]; rfl
 have e2 : q14.2.1.length = 35 := by
  show ([] ++ lineA 1 ⟨#[97, 98]⟩).length = 35
  rw [List.nil_append, line_ab]
 have e3 : q14.2.2.1.length = 1 := rfl
 rw [e1, e2, e3, leb1]; rfl
theorem works14 (D : CallF) (kg : KG 0 h) (hk : 1200000 ≤ k) : Gx.Wp (law14_works k D h) fun z => z.1 = true ∧ Keeps h z.2 := by
 simp only [law14_works]
 refine .call (new_spec14 (lim := 64) D) fun r1 ⟨k1, q1⟩ => Wp.jn fun j5 h5 => ?_
 rw [if_pos (by decide)] at q1
 obtain ⟨q1, mb, s1, B⟩ := q1
 rw [q1]
 refine .ifn (by simp) ?_
 rw [h5]
 refine .ifn (by simp) (.call (add_spec14 B D (kg.chg k1 fun f => f) hk (c := 1) (.inl rfl) (t := ⟨#[97, 98]⟩) (by decide) (by decide) (by decide) (by decide)) fun r6 ⟨q6, s1', s2', si', B6, c6⟩ => ?_)
 rw [add_ab] at q6 B6
 have kg6 : KG 0 r6.2 := (kg.chg k1 fun f => f).chg c6 (fun w => by have := (B.ge w).1; have := kg.lt; omega)
 have lq : q14.2.2.1 ≠ [] := fun q => by cases q
 have hb1 : q14.1.length ≤ 65536 := by
  show (magicB ++ encP 1 (bl ⟨#[97, 98]⟩)).length ≤ _
  rw [enc_ab]; decide
 have hb2 : q14.2.1.length ≤ 65536 := by
  show ([] ++ lineA 1 ⟨#[97, 98]⟩).length ≤ _
  rw [List.nil_append, line_ab]; decide
 refine .call (finish_spec B6 D kg6 (by have := kg.lt; omega) hk hb1 hb2 (by show 1 ≤ 4096; decide)) fun r7 q7 => ?_
 rw [if_neg lq] at q7
 obtain ⟨q7, A7, _, c7⟩ := q7
 rw [q6, q7]
 have kz : Keeps h r7.2 := (k1.keepsS c6 fun y hy => (B.ge hy).1).keepsS c7 fun y hy => (B6.ge hy).1
 have kg7 : KG 0 r7.2 := kg.chg kz fun f => f
 have R7 := A7.row itC_len
 have sl : si'.len = 1 := by rw [R7.len]; rfl
 obtain ⟨x, hx⟩ : ∃ x, (finI q14)[0]? = some x := ⟨_, rfl⟩
 have ex : x = setP ⟨⟨digest (finB q14)⟩⟩ (itP st0P 1 ⟨#[97, 98]⟩) := by cases hx; rfl
 obtain ⟨p, b1, _, b3, b4⟩ := R7.ld itC_len (by decide) hx
 have l3 : ldI .i64 ⟨p.block, p.off + 1 + 2, none⟩ r7.2 = some 5 := b3 3 _ 5 (by rw [ex]; rfl)
 have b1' : idxL 6 si' 0 = some p := b1
 refine .ifp rfl (.ifp (by show ((⟨⟨finB q14⟩⟩ : ByteArray).size : Int) == 53; rw [size_mk, fin_ab]; rfl) (.ifp (by show ((si'.len : Int) == 1) = true; rw [sl]; rfl) (.bnd b1' (.bnd l3 (.ifp rfl (Wp.newE fun h10 e10 k10 n10 g10 => ?_))))))
 have R10 : Row encS h10 ⟨some ⟨r7.2.next, 0, some 0⟩, 1, 1⟩ [⟨⟨finB q14⟩⟩] := Row.of_block (enc := encS) (xs := [⟨⟨finB q14⟩⟩]) g10 (by omega) fun i z hz => by
  match i with
  | 0 => simp at hz; subst hz; rfl
  | i + 1 => simp at hz
 have ec : Ge.B.catL [(⟨⟨finB q14⟩⟩ : ByteArray)] = finB q14 := by simp [Ge.B.catL, bl]
 refine .call (Ge.B.sum_spec (by omega) D (kg7.chg k10 fun f => f) R10 (by rw [ec, fin_ab]; decide) (by rw [ec, fin_ab]; omega) (by simp; omega) (by simp)) fun r11 ⟨q11, k11⟩ => ?_
 rw [ec] at q11
 have ldS1 : ∀ {H : AHeap}, Keeps r7.2 H → ldS ⟨p.block, p.off + 1 + 0, none⟩ H = some ⟨⟨digest (finB q14)⟩⟩ := fun kk => by
  obtain ⟨p', b1'', _, _, b4'⟩ := (R7.keeps kk).ld itC_len (by decide) hx
  rw [b1] at b1''
  cases b1''
  exact b4' 1 _ (by rw [ex]; rfl)
 refine .bnd b1' (.bnd (ldS1 (k10.trans k11)) (.gp (fun HH hH => ?_) (.of ⟨?_, kz.trans (k10.trans k11)⟩)))
 ·simp only [List.mem_cons, List.not_mem_nil, or_false] at hH
  rcases hH with z | z
  ·rw [z]; dsimp only; rw [ldS1 k10]; rfl
  ·rw [z]; dsimp only; rw [ldS1 (Chg.refl _ _)]; rfl
 ·rw [q11, ba_beq]; simp
end
end Ge
namespace Ge
open Go Gx
end Ge
namespace Ge.B
open Go Gx Go.Proofs
def Rdr (h : AHeap) (b : Nat) (s : ByteArray) (e : Int) : Prop := h.get b = some (.cells [.string s, .int .i64 e] 157 true 0)
theorem Rdr.chg {S : Nat → Prop} {h h' : AHeap} {b : Nat} {s : ByteArray} {e : Int} (R : Rdr h b s e) (c : Chg S h h') (hb : ¬ S b) (hl : b < h.next) : Rdr h' b s e := (c.oth b hl hb).trans R
def OnlyB (b : Nat) : Nat → Prop := fun x => x = b
theorem read_spec (k : Nat) (D : CallF) (s : ByteArray) (h : AHeap) : num_Read k D s h = some (some ⟨h.next, 0, none⟩, h.new (.cells [.string s, .int .i64 0] 157 true 0)) := rfl
theorem fail_spec (k : Nat) (D : CallF) {h : AHeap} {b : Nat} {s : ByteArray} {e : Int} (R : Rdr h b s e) (c : Int) :
  ∃ h', num_Reader_Fail k D (some ⟨b, 0, none⟩) c h = some ((), h') ∧ Rdr h' b s (if e = 0 then c else e) ∧ Chg (OnlyB b) h h' := by
 simp only [num_Reader_Fail, Option.bind_some]
 by_cases he : e = 0
 ·subst he
  refine ⟨h.set b (.cells [.string s, .int .i64 c] 157 true 0), ?_, by simp [Rdr], Chg.set (.inr rfl)⟩
  refine bnd (ldI_at R rfl) ?_
  refine ifp (by decide) ?_
  refine bnd (st1_of (o := 1) R (by simp) rfl) rfl
 ·refine ⟨h, ?_, by rw [if_neg he]; exact R, Chg.refl _ _⟩
  refine bnd (ldI_at R rfl) ?_
  exact ifn (by simpa using he) rfl
theorem left_spec (k : Nat) (D : CallF) {h : AHeap} {b : Nat} {s : ByteArray} {e : Int} (R : Rdr h b s e) : num_Reader_Left k D (some ⟨b, 0, none⟩) h = some ((s.size : Int), h) := by
 simp only [num_Reader_Left, Option.bind_some]
 exact bnd (ldS_at R rfl) rfl
theorem err_spec (k : Nat) (D : CallF) {h : AHeap} {b : Nat} {s : ByteArray} {e : Int} (R : Rdr h b s e) : num_Reader_Err k D (some ⟨b, 0, none⟩) h = some (e, h) := by
 simp only [num_Reader_Err, Option.bind_some]
 exact bnd (ldI_at R rfl) rfl
def rdE (s : ByteArray) (e n : Int) : Int := if e ≠ 0 then e else if n < 0 then 1 else if n > s.size then 10 else 0
def rdOut (s : ByteArray) (e n : Int) : ByteArray := if rdE s e n = 0 then ⟨⟨(bl s).take n.toNat⟩⟩ else ⟨#[]⟩
def rdRest (s : ByteArray) (e n : Int) : ByteArray := if rdE s e n = 0 then ⟨⟨(bl s).drop n.toNat⟩⟩ else s
theorem rbytes_spec (k : Nat) (D : CallF) {h : AHeap} {b : Nat} {s : ByteArray} {e : Int} (R : Rdr h b s e) (n : Int) :
  ∃ h', num_Reader_Bytes k D (some ⟨b, 0, none⟩) n h = some (rdOut s e n, h') ∧ Rdr h' b (rdRest s e n) (rdE s e n) ∧ Chg (OnlyB b) h h' := by
 simp only [num_Reader_Bytes]
 have go : ∀ (h1 : AHeap) (e1 : Int), Rdr h1 b s e1 → Chg (OnlyB b) h h1 → e1 = rdE s e n →
   ∃ h', ((some (⟨b, 0, none⟩ : Addr)).bind fun p5 => (ldI .i64 (⟨p5.block, p5.off + 1, none⟩ : Addr) h1).bind fun x6 =>
    (if (x6 != 0) = true then some ((⟨#[]⟩ : ByteArray), h1)
    else ((some (⟨b, 0, none⟩ : Addr)).bind fun p7 => (ldS (⟨p7.block, p7.off + 0, none⟩ : Addr) h1).bind fun x8 => (Gx.subS x8 none (some n)).bind fun s9 =>
     (some (⟨b, 0, none⟩ : Addr)).bind fun p10 => (ldS (⟨p10.block, p10.off + 0, none⟩ : Addr) h1).bind fun x11 => (Gx.subS x11 (some n) none).bind fun s12 =>
     (some (⟨b, 0, none⟩ : Addr)).bind fun p13 => (st1 (⟨p13.block, p13.off + 0, none⟩ : Addr) (.string s12) h1).bind fun h14 => some (s9, h14)))) = some (rdOut s e n, h') ∧ Rdr h' b (rdRest s e n) (rdE s e n) ∧ Chg (OnlyB b) h h' := by
  intro h1 e1 R1 c1 he
  by_cases h0 : rdE s e n = 0
  ·rw [h0] at he; subst he
   have hn : 0 ≤ n ∧ n ≤ s.size := by
    unfold rdE at h0
    split at h0
    ·rename_i q; exact absurd h0 q
    ·split at h0
     ·cases h0
     ·split at h0
      ·cases h0
      ·omega
   obtain ⟨m, rfl⟩ : ∃ m : Nat, n = m := ⟨n.toNat, by omega⟩
   refine ⟨h1.set b (.cells [.string ⟨⟨(bl s).drop m⟩⟩, .int .i64 0] 157 true 0), ?_, ?_, c1.trans (Chg.set (.inr rfl))⟩
   ·refine bnd rfl ?_
    refine bnd (ldI_at R1 rfl) ?_
    refine ifn (by decide) ?_
    refine bnd rfl ?_
    refine bnd (ldS_at R1 rfl) ?_
    refine bnd (subS_of (j := m) (i := 0) rfl rfl (by omega) (by omega)) ?_
    refine bnd rfl ?_
    refine bnd (ldS_at R1 rfl) ?_
    refine bnd (subS_of (j := s.size) (i := m) rfl rfl (by omega) (by omega)) ?_
    refine bnd rfl ?_
    refine bnd (st1_of (o := 0) R1 (by simp) rfl) ?_
    unfold rdOut
    have e0 : (bl s).take s.size = bl s := List.take_of_length_le (by rw [bl_length]; omega)
    rw [if_pos h0, List.drop_zero, Int.toNat_natCast, e0]
    rfl
   ·unfold rdRest
    rw [if_pos h0, h0, Int.toNat_natCast]
    simp [Rdr]
  ·refine ⟨h1, ?_, ?_, c1⟩
   ·refine bnd rfl ?_
    refine bnd (ldI_at R1 rfl) ?_
    refine ifp (by rw [he]; simpa using h0) ?_
    unfold rdOut; rw [if_neg h0]
   ·unfold rdRest; rw [if_neg h0, ← he]; exact R1
 by_cases hn : n < 0
 ·obtain ⟨h1, r1, R1, c1⟩ := fail_spec k D R 1
  obtain ⟨h', g1, g2, g3⟩ := go h1 _ R1 c1 (by unfold rdE; by_cases he : e = 0 <;> simp [he, hn])
  refine ⟨h', ?_, g2, g3⟩
  refine jn ?_
  refine ifp (decide_eq_true hn) ?_
  exact bnd r1 g1
 ·by_cases hl : n > s.size
  ·obtain ⟨h1, r1, R1, c1⟩ := fail_spec k D R 10
   obtain ⟨h', g1, g2, g3⟩ := go h1 _ R1 c1 (by unfold rdE; by_cases he : e = 0 <;> simp [he, hn, hl])
   refine ⟨h', ?_, g2, g3⟩
   refine jn ?_
   refine ifn (by simpa using hn) ?_
   refine bnd (left_spec k D R) ?_
   refine ifp (decide_eq_true hl) ?_
   exact bnd r1 g1
  ·obtain ⟨h', g1, g2, g3⟩ := go h _ R (Chg.refl _ _) (by unfold rdE; by_cases he : e = 0 <;> simp [he, hn, hl])
   refine ⟨h', ?_, g2, g3⟩
   refine jn ?_
   refine ifn (by simpa using hn) ?_
   refine bnd (left_spec k D R) ?_
   refine ifn (by simpa using hl) ?_
   exact g1
abbrev rxT := Int → Slc → Int → Int → AHeap → Option ((Int) × AHeap)
theorem rfixed_l0 (K : Nat) (D : CallF) (j) (bot : rxT) {h : AHeap} {b cap : Nat} {sp : Option Nat} {l : List UInt8} {e : TypeId} {r : Bool} {fz : Nat} (hb : h.get b = some (.cells (l.map encB) e r fz)) (hl : l.length ≤ 7) : ∀ (m i a : Nat), i + m = l.length → a < 256 ^ i →
  iterK bot (m + 1) (num_Reader_Fixed_l0b K D j) (a : Int) (⟨some ⟨b, 0, sp⟩, l.length, cap⟩ : Slc) (l.length : Int) (i : Int) h = j ((numL a (l.drop i) : Nat) : Int) h
 | 0, i, a, hi, ha => by
  obtain rfl : i = l.length := by omega
  rw [iterK_s]; simp only [num_Reader_Fixed_l0b]
  refine ifn (by simp) ?_
  rw [List.drop_length]; rfl
 | m + 1, i, a, hi, ha => by
  rw [iterK_s]; simp only [num_Reader_Fixed_l0b]
  refine ifp (by simp; omega) ?_
  obtain ⟨x, hx⟩ := isome (l := l) (i := i) (by omega)
  refine bnd (idxL_out (by omega)) ?_
  refine bnd (rdB_out hb hx) ?_
  have hx' : x.toNat < 256 := UInt8.toNat_lt x
  have hbd := num_step ha (show i < l.length by omega) hl
  have e1 : Go.bits .or .i64 (IntKind.wrap .i64 ((a : Int) * 256)) (IntKind.wrap .i64 (x.toNat : Int)) = ((a * 256 + x.toNat : Nat) : Int) := by
   rw [w64 ((a : Int) * 256) (by omega), w64 (x.toNat : Int) (by omega)]
   have := bits_join .i64 63 (by decide) wraps_i64 8 ((a : Int) * 256) (x.toNat : Int) (by omega) (by omega) (by omega) (by omega) (by omega) (by omega)
   rw [this]; omega
  rw [e1, w1 (by omega), dropc hx]
  exact rfixed_l0 K D j bot hb hl m (i + 1) _ (by omega) (num_step2 ha)
theorem rfixed_spec {kf : Nat} (hkf : 9 ≤ kf) (D : CallF) {h : AHeap} {b : Nat} {s : ByteArray} {e : Int} (R : Rdr h b s e) (n : Nat) (h1 : 1 ≤ n) (h7 : n ≤ 7) (hbl : b < h.next) :
  ∃ h', num_Reader_Fixed kf D (some ⟨b, 0, none⟩) (n : Int) h = some (((numL 0 (bl (rdOut s e n)) : Nat) : Int), h') ∧ Rdr h' b (rdRest s e n) (rdE s e n) ∧ Chg (OnlyB b) h h' := by
 simp only [num_Reader_Fixed]
 obtain ⟨g, r1, R1, c1⟩ := rbytes_spec kf D R (n : Int)
 have hg : b < g.next := Nat.lt_of_lt_of_le hbl c1.nx
 have kn : Keeps g (g.new (.cells (bytesL (rdOut s e n)) 5 true 18446744073709551616)) := Keeps.new _ _
 refine ⟨g.new (.cells (bytesL (rdOut s e n)) 5 true 18446744073709551616), ?_, R1.chg kn (fun f => f) hg, c1.trans (Chg.keeps kn)⟩
 refine jn ?_
 refine jn ?_
 refine ifn (by simp <;> omega) ?_
 refine ifn (by simp <;> omega) ?_
 refine jn ?_
 refine bnd r1 ?_
 unfold num_Reader_Fixed_l0
 have hlen : (bl (rdOut s e n)).length ≤ 7 := by
  unfold rdOut
  split
  ·rw [bl_mk]; simp; omega
  ·exact Nat.zero_le _
 have hsz := bl_length (rdOut s e n)
 obtain ⟨bot', e2⟩ := iterK_of (α := rxT) (fun _ _ _ _ _ => none) (num_Reader_Fixed_l0b kf D fun (n5 : Int) (h6 : AHeap) => some (n5, h6)) (show (rdOut s e n).size + 1 ≤ kf by omega)
 rw [e2]
 have := rfixed_l0 kf D (fun (n5 : Int) (h6 : AHeap) => some (n5, h6)) bot' (h := g.new (.cells (bytesL (rdOut s e n)) 5 true 18446744073709551616)) (b := g.next) (cap := (rdOut s e n).size) (sp := some 2) (l := bl (rdOut s e n)) (e := 5) (r := true) (fz := 18446744073709551616) (by simp [bytesL_bl]) hlen (rdOut s e n).size 0 0 (by omega) (by decide)
 rw [hsz] at this
 refine this.trans ?_
 rw [List.drop_zero]
end Ge.B
namespace Ge
open Go Gx
def partsP (l : List UInt8) : Option (Nat × List UInt8) :=
 if l.length ≤ 65536 ∧ 14 ≤ l.length ∧ l.take 5 = magicB ∧ l.drop (l.length - 4) = endB then
  if l.length - 8 - 5 < B.numL 0 ((l.drop (l.length - 8)).take 4) then none
  else some (l.length - 8 - B.numL 0 ((l.drop (l.length - 8)).take 4), (l.take (l.length - 8)).drop (l.length - 8 - B.numL 0 ((l.drop (l.length - 8)).take 4)))
 else none
abbrev Ln := ByteArray × Nat × Nat × Nat
def opL (s : Rd) : Ln × Rd :=
 let a := opB 32 s
 let b := opF a.2
 let c := opS 65536 b.2
 let d := opS 65536 c.2
 ((a.1, b.1, c.1, d.1), d.2)
def itL (pid : ByteArray) (at' : Nat) (x : Ln) : It := (x.1, pid, (x.2.1 : Int), (at' : Int), (x.2.2.1 : Int), (x.2.2.2 : Int))
def linesP (pid : ByteArray) (fr : Nat) : Nat → Rd → Nat → List (ByteArray × Bool × Nat) → Option (List It × Rd × Nat)
 | 0, st, at', _ => some ([], st, at')
 | n + 1, st, at', es =>
  if (opL st).2.isSome = true ∧ ((opL st).1.2.1 = 1 ∨ (opL st).1.2.1 = 2) ∧ 1 ≤ (opL st).1.2.2.1 ∧ (opL st).1.2.2.1 ≤ fr - at' ∧ (lkM (opL st).1.1 es).getD false = false then
   (linesP pid fr n (opL st).2 (at' + (opL st).1.2.2.1) (ptM (opL st).1.1 true es.length es)).map fun p => (itL pid at' (opL st).1 :: p.1, p.2)
  else none
def parseK (l : List UInt8) : Option (List It) :=
 match partsP l with
 | none => none
 | some (fr, dir) => match linesP ⟨⟨digest l⟩⟩ fr (opS 4096 (some dir)).1 (opS 4096 (some dir)).2 5 [] with
  | some (its, st, at') => if st = some [] ∧ at' = fr then some its else none
  | none => none
def bV (b : Bool) : Value := .bool b
section
variable {k rb : Nat} {h H H' : AHeap} {st : Rd}
theorem pitem_spec (D : CallF) (hk : 20 ≤ k) (hr : rb < H.next) (P : PRd H rb st) : Gx.Wp (pack_item k D (some ⟨rb, 0, none⟩) H) fun z => z.1 = ((opL st).1.1, ⟨#[]⟩, ((opL st).1.2.1 : Int), 0, ((opL st).1.2.2.1 : Int), ((opL st).1.2.2.2 : Int)) ∧ PRd z.2 rb (opL st).2 ∧ Chg (· = rb) H z.2 := by
 simp only [pack_item]
 obtain ⟨a, sa, ea⟩ : ∃ a sa, opB 32 st = (a, sa) := ⟨_, _, rfl⟩
 obtain ⟨c, sc, ec⟩ : ∃ c sc, opF sa = (c, sc) := ⟨_, _, rfl⟩
 obtain ⟨d, sd, ed⟩ : ∃ d sd, opS 65536 sc = (d, sd) := ⟨_, _, rfl⟩
 obtain ⟨e, se, ee⟩ : ∃ e se, opS 65536 sd = (e, se) := ⟨_, _, rfl⟩
 have eI : opL st = ((a, c, d, e), se) := by
  unfold opL
  simp only [ea, ec, ed, ee]
 rw [eI]
 refine Wp.newE fun h1 e1 k1 n1 g1 => .call (rbytes_spec D (P.keeps hr k1) 32) fun r2 ⟨q2, P2, c2⟩ => ?_
 rw [ea] at q2 P2
 rw [q2]
 have n2 := c2.nx
 have c02 : Chg (· = rb) H r2.2 := Chg.trans (Chg.keeps k1) c2
 have g2 := c2.got (by omega) (by omega) g1
 refine Wp.newE fun h3 e3 k3 n3 g3 => Wp.stL g3 rfl rfl rfl (by decide) fun h4 c4 n4 g4 => ?_
 have k4 : Keeps r2.2 h4 := k3.keepsS c4 fun y hy => by have hy : y = r2.2.next := hy; omega
 have P4 := P2.keeps (by omega) k4
 have c04 : Chg (· = rb) H h4 := Chg.trans c02 (Chg.keeps k4)
 have g24 := k4.got (by omega) g2
 refine .call (rfixed_spec D hk (by omega) P4) fun r7 ⟨q7, P7, c7⟩ => ?_
 rw [ec] at q7 P7
 rw [q7]
 have n7 := c7.nx
 have gx7 := c7.got (by omega) (by omega) g4
 have g27 := c7.got (by omega) (by omega) g24
 have c07 : Chg (· = rb) H r7.2 := Chg.trans c04 c7
 refine Wp.st gx7 (by simp) rfl fun h8 c8 n8 g8 => ?_
 have P8 := P7.chg (by omega) c8 (by omega)
 have g28 := c8.got (by omega) (by omega) g27
 have c08 := chgB c07 c8 (by omega)
 refine .call (rshort_spec D hk P8 65536) fun r9 ⟨q9, P9, c9⟩ => ?_
 rw [ed] at q9 P9
 rw [q9]
 have n9 := c9.nx
 have gx9 := c9.got (by omega) (by omega) g8
 have g29 := c9.got (by omega) (by omega) g28
 have c09 : Chg (· = rb) H r9.2 := Chg.trans c08 c9
 refine Wp.st gx9 (by simp) rfl fun h10 c10 n10 g10 => ?_
 have P10 := P9.chg (by omega) c10 (by omega)
 have g210 := c10.got (by omega) (by omega) g29
 have c010 := chgB c09 c10 (by omega)
 refine .call (rshort_spec D hk P10 65536) fun r11 ⟨q11, P11, c11⟩ => ?_
 rw [ee] at q11 P11
 rw [q11]
 have n11 := c11.nx
 have gx11 := c11.got (by omega) (by omega) g10
 have g211 := c11.got (by omega) (by omega) g210
 have c011 : Chg (· = rb) H r11.2 := Chg.trans c010 c11
 refine Wp.st gx11 (by simp) rfl fun h12 c12 n12 g12 => ?_
 have P12 := P11.chg (by omega) c12 (by omega)
 have g212 := c12.got (by omega) (by omega) g211
 have c012 := chgB c011 c12 (by omega)
 refine .bnd (sldA_at g12 rfl) (.bnd (decI6 (a, ⟨#[]⟩, (c : Int), 0, (d : Int), (e : Int))) ?_)
 refine Wp.stL g212 rfl rfl rfl (by decide) fun h13 c13 n13 g13 => ?_
 have P13 := P12.chg (by omega) c13 (by omega)
 have c013 := chgB c012 c13 (Nat.le_refl _)
 exact .bnd (sldA_at g13 rfl) (.bnd (decI6 (a, ⟨#[]⟩, (c : Int), 0, (d : Int), (e : Int))) (.of ⟨rfl, P13, c013⟩))
theorem prefix_spec (D : CallF) (s p : ByteArray) : strings_HasPrefix k D s p h = some (decide ((bl s).take p.size = bl p), h) := by
 simp only [strings_HasPrefix, internal_stringslite_HasPrefix]
 have bs : (bl s).length = s.size := bl_length s
 have bp : (bl p).length = p.size := bl_length p
 by_cases c : p.size ≤ s.size
 ·refine bnd (ifp (by simp; omega) (bnd (subS_of (i := 0) (j := p.size) rfl rfl (by omega) c) rfl)) ?_
  rw [List.drop_zero]
  congr 2
  rw [ba_beq]
  exact decide_eq_decide.2 ⟨fun q => congrArg bl q, fun q => bl_inj q⟩
 ·refine bnd (ifn (by simp; omega) rfl) ?_
  congr 2
  symm
  refine decide_eq_false fun q => ?_
  have := congrArg List.length q
  rw [List.length_take] at this
  omega
theorem suffix_spec (D : CallF) (s p : ByteArray) (hs : s.size ≤ 1000000) (hp : p.size ≤ s.size) : strings_HasSuffix k D s p h = some (decide ((bl s).drop (s.size - p.size) = bl p), h) := by
 simp only [strings_HasSuffix, internal_stringslite_HasSuffix]
 have bs : (bl s).length = s.size := bl_length s
 refine bnd (v := (decide ((bl s).drop (s.size - p.size) = bl p), h)) (ifp (by simp; omega) ?_) rfl
 rw [show IntKind.wrap .i64 ((s.size : Int) - (p.size : Int)) = ((s.size - p.size : Nat) : Int) by rw [Gx.w64 _ (by omega)]; omega]
 refine bnd (subS_of (i := s.size - p.size) (j := s.size) rfl rfl (by omega) (Nat.le_refl _)) ?_
 rw [List.take_of_length_le (by omega)]
 congr 2
 rw [ba_beq]
 exact decide_eq_decide.2 ⟨fun q => congrArg bl q, fun q => bl_inj q⟩
theorem parts_spec (D : CallF) (hk : 20 ≤ k) (s : ByteArray) : Gx.Wp (pack_parts k D s h) fun z => Keeps h z.2 ∧ match partsP (bl s) with
  | some (fr, dir) => z.1 = ((fr : Int), ⟨⟨dir⟩⟩, true)
  | none => z.1.2.2 = false := by
 simp only [pack_parts]
 refine Wp.jn fun j4 h4 => ?_
 have bs : (bl s).length = s.size := bl_length s
 have bad : ∀ y, y = true → partsP (bl s) = none → Gx.Wp (j4 s y h) fun z => Keeps h z.2 ∧ match partsP (bl s) with
   | some (fr, dir) => z.1 = ((fr : Int), ⟨⟨dir⟩⟩, true)
   | none => z.1.2.2 = false := fun y hy hn => by
  rw [h4, hn]
  exact .ifp hy (.of ⟨Chg.refl _ _, rfl⟩)
 by_cases c1 : 65536 < s.size
 ·exact .ifp (by simp; omega) (bad true rfl (by unfold partsP; rw [if_neg (fun q => by omega)]))
 refine .ifn (by simp; omega) ?_
 by_cases c2 : s.size < 14
 ·exact .ifp (by simp; omega) (bad true rfl (by unfold partsP; rw [if_neg (fun q => by omega)]))
 refine .ifn (by simp; omega) (.bnd (prefix_spec D s _) ?_)
 have p5 : (⟨#[71, 82, 84, 80, 1]⟩ : ByteArray).size = 5 := rfl
 have p4 : (⟨#[80, 69, 78, 68]⟩ : ByteArray).size = 4 := rfl
 rw [p5, show bl (⟨#[71, 82, 84, 80, 1]⟩ : ByteArray) = magicB from rfl]
 by_cases c3 : (bl s).take 5 = magicB
 rotate_left
 ·exact .ifp (by rw [decide_eq_false c3]; rfl) (bad true rfl (by unfold partsP; rw [if_neg (fun q => c3 q.2.2.1)]))
 refine .ifn (by rw [decide_eq_true c3]; simp) (.bnd (suffix_spec D s _ (by omega) (by rw [p4]; omega)) ?_)
 rw [p4, show bl (⟨#[80, 69, 78, 68]⟩ : ByteArray) = endB from rfl]
 by_cases c4 : (bl s).drop (s.size - 4) = endB
 rotate_left
 ·exact bad _ (by rw [decide_eq_false c4]; rfl) (by unfold partsP; rw [if_neg (fun q => c4 (by rw [← bs]; exact q.2.2.2))])
 rw [decide_eq_true c4, h4]
 refine .ifn (by simp) ?_
 rw [show IntKind.wrap .i64 ((s.size : Int) - 8) = ((s.size - 8 : Nat) : Int) by rw [Gx.w64 _ (by omega)]; omega]
 refine .bnd (subS_of (i := 0) (j := s.size - 8) rfl rfl (by omega) (by omega)) ?_
 rw [List.drop_zero]
 have s5 : (⟨⟨(bl s).take (s.size - 8)⟩⟩ : ByteArray).size = s.size - 8 := by rw [size_mk, List.length_take]; omega
 rw [s5]
 refine .bnd (subS_of (i := s.size - 8) (j := s.size) rfl rfl (by omega) (by omega)) ?_
 rw [List.take_of_length_le (by omega)]
 obtain ⟨l8, e8⟩ : ∃ l8, l8 = (bl s).drop (s.size - 8) := ⟨_, rfl⟩
 have ll8 : l8.length = 8 := by rw [e8, List.length_drop]; omega
 rw [← e8]
 refine .bnd (Ge.B.read_spec k D ⟨⟨l8⟩⟩ h) ?_
 obtain ⟨h7, e7⟩ : ∃ h7, h7 = h.new (.cells [.string (⟨⟨l8⟩⟩ : ByteArray), .int .i64 0] 157 true 0) := ⟨_, rfl⟩
 rw [← e7]
 have R7 : Ge.B.Rdr h7 h.next ⟨⟨l8⟩⟩ 0 := by rw [Ge.B.Rdr, e7]; simp
 have k7 : Keeps h h7 := by rw [e7]; exact Keeps.new _ _
 obtain ⟨h8, f1, f2, f3⟩ := Ge.B.rfixed_spec (kf := k) (by omega) D R7 4 (by omega) (by omega) (by rw [e7]; show h.next < h.next + 1; omega)
 have k8 : Keeps h h8 := k7.keepsS f3 fun y hy => by have hy : y = h.next := hy; omega
 have eN : Ge.B.numL 0 (bl (Ge.B.rdOut ⟨⟨l8⟩⟩ 0 (4 : Nat))) = Ge.B.numL 0 (((bl s).drop ((bl s).length - 8)).take 4) := by
  have e0 : Ge.B.rdE ⟨⟨l8⟩⟩ 0 ((4 : Nat) : Int) = 0 := by
   unfold Ge.B.rdE
   rw [size_mk, ll8]; decide
  unfold Ge.B.rdOut
  rw [if_pos e0, bl_mk, bl_mk, bs, ← e8]
  rfl
 have eP : partsP (bl s) = if (bl s).length - 8 - 5 < Ge.B.numL 0 (((bl s).drop ((bl s).length - 8)).take 4) then none
  else some ((bl s).length - 8 - Ge.B.numL 0 (((bl s).drop ((bl s).length - 8)).take 4), ((bl s).take ((bl s).length - 8)).drop ((bl s).length - 8 - Ge.B.numL 0 (((bl s).drop ((bl s).length - 8)).take 4))) := by
  unfold partsP
  rw [if_pos ⟨by omega, by omega, c3, by rw [bs]; exact c4⟩]
 refine .bnd f1 ?_
 rw [eN]
 obtain ⟨m, em⟩ : ∃ m, m = Ge.B.numL 0 (((bl s).drop ((bl s).length - 8)).take 4) := ⟨_, rfl⟩
 rw [← em] at eP ⊢
 rw [eP]
 have hm32 : m < 4294967296 := by
  rw [em]
  have := Ge.B.numL_lt (((bl s).drop ((bl s).length - 8)).take 4)
  have l4 : (((bl s).drop ((bl s).length - 8)).take 4).length = 4 := by rw [List.length_take, List.length_drop]; omega
  rw [l4] at this
  exact this
 simp only []
 rw [show IntKind.wrap .i64 (((s.size - 8 : Nat) : Int) - 5) = ((s.size - 8 - 5 : Nat) : Int) by rw [Gx.w64 _ (by omega)]; omega]
 by_cases c5 : (bl s).length - 8 - 5 < m
 ·rw [if_pos c5]
  exact .ifp (by simp; omega) (.of ⟨k8, rfl⟩)
 ·rw [if_neg c5]
  refine .ifn (by simp; omega) ?_
  rw [show IntKind.wrap .i64 (((s.size - 8 : Nat) : Int) - (m : Int)) = ((s.size - 8 - m : Nat) : Int) by rw [Gx.w64 _ (by omega)]; omega]
  refine .bnd (subS_of (s := ⟨⟨(bl s).take (s.size - 8)⟩⟩) (i := s.size - 8 - m) (j := s.size - 8) (by rw [Option.getD_none, s5]) rfl (by omega) (by omega)) (.of ⟨k8, ?_⟩)
  rw [show bl (⟨⟨(bl s).take (s.size - 8)⟩⟩ : ByteArray) = (bl s).take (s.size - 8) from rfl, List.take_take, Nat.min_self, bs]
end
end Ge
namespace Ge
open Go Gx
structure PL (h0 H : AHeap) (rb mb : Nat) (st : Rd) (es : List (ByteArray × Bool × Nat)) (o : Slc) (its : List It) : Prop where
 kp : Keeps h0 H
 R : PRd H rb st
 M : MapAt sK bV H mb es
 A : AccW 6 itC 57 (mb + 1) H o its
 lr : rb < mb
 lm : mb < H.next
 h0r : h0.next ≤ rb
section
variable {k rb mb : Nat} {h0 H H' : AHeap} {st : Rd} {es : List (ByteArray × Bool × Nat)} {o : Slc} {its : List It}
theorem PL.keeps (P : PL h0 H rb mb st es o its) (c : Keeps H H') : PL h0 H' rb mb st es o its :=
 have := P.lr; have := P.lm; have := c.nx
 ⟨P.kp.trans c, P.R.keeps (by omega) c, P.M.chg c P.lm (fun f => f), P.A.keeps c, P.lr, by omega, P.h0r⟩
theorem PL.red (P : PL h0 H rb mb st es o its) (c : Chg (· = rb) H H') {st' : Rd} (R : PRd H' rb st') : PL h0 H' rb mb st' es o its :=
 have := P.lr; have := P.lm; have := c.nx; have := P.h0r
 ⟨P.kp.keepsS c fun y hy => (by have hy : y = rb := hy; omega), R, P.M.chg c P.lm (by omega), P.A.chg c fun a ha e => (by have := (P.A.lt a ha).2; have e : a.block = rb := e; omega), P.lr, by omega, P.h0r⟩
theorem kind_dec (n : Nat) : (((n : Int) == 1) = true ↔ n = 1) ∧ (((n : Int) == 2) = true ↔ n = 2) := by
 constructor
 ·constructor
  ·intro h; have := eq_of_beq h; omega
  ·intro h; subst h; rfl
 ·constructor
  ·intro h; have := eq_of_beq h; omega
  ·intro h; subst h; rfl
theorem opS_le (most : Nat) (st : Rd) : (opS most st).1 ≤ most := by
 unfold opS
 cases h : st.bind (pS most) with
 | none => simp
 | some x =>
  obtain ⟨n, l⟩ := x
  simp only []
  cases st with
  | none => cases h
  | some l0 => exact (pS_suf h).1
theorem lines_no {pid : ByteArray} {fr d at' : Nat} (h : ¬ ((opL st).2.isSome = true ∧ ((opL st).1.2.1 = 1 ∨ (opL st).1.2.1 = 2) ∧ 1 ≤ (opL st).1.2.2.1 ∧ (opL st).1.2.2.1 ≤ fr - at' ∧ (lkM (opL st).1.1 es).getD false = false)) : linesP pid fr (d + 1) st at' es = none := by
 unfold linesP; rw [if_neg h]
theorem lines_loop (D : CallF) (hk : 20 ≤ k) {pid : ByteArray} {fr : Nat} (hfr : fr ≤ 70000) {j12 : Int → (Option Addr) → Int → Slc → AHeap → Option ((Slc × Int) × AHeap)} {Q : (Slc × Int) × AHeap → Prop} {many : Nat} (hmany : many ≤ 4096) (bot) :
  ∀ (d i at' : Nat) (st : Rd) (es : List (ByteArray × Bool × Nat)) (o : Slc) (its : List It) (H : AHeap), i + d = many → at' ≤ fr → its.length = i → PL h0 H rb mb st es o its →
  (linesP pid fr d st at' es = none → ∀ H', Keeps h0 H' → Q ((⟨none, 0, 0⟩, 140), H')) →
  (∀ its' st' at'' H' o' es', linesP pid fr d st at' es = some (its', st', at'') → PL h0 H' rb mb st' es' o' (its ++ its') → Gx.Wp (j12 (fr : Int) (some ⟨rb, 0, none⟩) (at'' : Int) o' H') Q) →
  Gx.Wp (iterK bot (d + 1) (pack_Parse_l0b k D j12) (fr : Int) (some ⟨rb, 0, none⟩) (at' : Int) pid (some mb) o (many : Int) (i : Int) H) Q := by
 intro d
 induction d with
 | zero =>
  intro i at' st es o its H hd hat hl P _ hgood
  rw [iterK_s]; simp only [pack_Parse_l0b]
  refine .ifn (by simp; omega) (hgood [] st at' H o es rfl ?_)
  rw [List.append_nil]; exact P
 | succ d ih =>
  intro i at' st es o its H hd hat hl P hbad hgood
  rw [iterK_s]; simp only [pack_Parse_l0b]
  have plr := P.lr; have plm := P.lm; have ph := P.h0r
  refine .ifp (by simp; omega) (.call (pitem_spec D hk (by omega) P.R) fun r28 ⟨q28, R28, c28⟩ => ?_)
  have P28 := P.red c28 R28
  have n28 := c28.nx
  obtain ⟨ln, eln⟩ : ∃ ln, ln = (opL st).1 := ⟨_, rfl⟩
  obtain ⟨st', est⟩ : ∃ st', st' = (opL st).2 := ⟨_, rfl⟩
  rw [← eln] at q28
  rw [← est] at R28 P28
  rw [q28]
  dsimp only
  have b65 : ln.2.2.1 ≤ 65536 := by rw [eln]; exact opS_le _ _
  obtain ⟨xb, exb⟩ : ∃ xb, xb = r28.2.next := ⟨_, rfl⟩
  refine Wp.newE fun h29 e29 k29 n29 g29 => Wp.stL g29 rfl rfl rfl (by decide) fun h30 c30 n30 g30 => Wp.jn fun j42 h42 => ?_
  have k30 : Keeps r28.2 h30 := k29.keepsS c30 fun y hy => by have hy : y = r28.2.next := hy; omega
  have P30 := P28.keeps k30
  rw [← exb] at g30 ⊢
  have J42 : ∀ kd : Bool, (kd = true ↔ (ln.2.1 = 1 ∨ ln.2.1 = 2)) → Gx.Wp (j42 (fr : Int) (some ⟨rb, 0, none⟩) (at' : Int) pid (some mb) o (some ⟨xb, 0, none⟩) kd (many : Int) (i : Int) h30) Q := fun kd hkd => by
   rw [h42]
   refine Wp.jn fun j54 h54 => ?_
   have bad54 : ∀ y, y = true → linesP pid fr (d + 1) st at' es = none → Gx.Wp (j54 (fr : Int) (some ⟨rb, 0, none⟩) (at' : Int) pid (some mb) o (some ⟨xb, 0, none⟩) (many : Int) (i : Int) y h30) Q := fun y hy hn => by
    rw [h54]
    exact .ifp hy (.of (hbad hn h30 P30.kp))
   obtain ⟨S, e, gR, hS, he, hl'⟩ := P30.R
   refine .bnd (err_spec D gR) ?_
   by_cases c1 : e = 0
   rotate_left
   ·exact .ifp (by simpa using c1) (bad54 _ rfl (lines_no fun w => c1 (he.2 (by rw [est]; exact w.1))))
   have hsome : st'.isSome = true := he.1 c1
   refine .ifn (by simp [c1]) ?_
   by_cases c2 : ln.2.1 = 1 ∨ ln.2.1 = 2
   rotate_left
   ·exact .ifp (by rw [show kd = false by cases kd with | false => rfl | true => exact absurd (hkd.1 rfl) c2]; rfl) (bad54 _ rfl (lines_no fun w => c2 (by rw [eln]; exact w.2.1)))
   refine .ifn (by rw [hkd.2 c2]; decide) (.bnd rfl (.bnd (sldI_at (o := 0 + 1 + 3) g30 rfl) ?_))
   by_cases c3 : 1 ≤ ln.2.2.1
   rotate_left
   ·exact .ifp (decide_eq_true (by omega)) (bad54 _ rfl (lines_no fun w => c3 (by rw [eln]; exact w.2.2.1)))
   refine .ifn (fun w => by have := of_decide_eq_true w; omega) (.bnd rfl (.bnd (sldI_at (o := 0 + 1 + 3) g30 rfl) ?_))
   rw [show IntKind.wrap .i64 ((fr : Int) - (at' : Int)) = ((fr - at' : Nat) : Int) by rw [Gx.w64 _ (by omega)]; omega]
   by_cases c4 : ln.2.2.1 ≤ fr - at'
   rotate_left
   ·exact .ifp (decide_eq_true (by omega)) (bad54 _ rfl (lines_no fun w => c4 (by rw [eln]; exact w.2.2.2.1)))
   refine .ifn (fun w => by have := of_decide_eq_true w; omega) (.bnd rfl (.bnd (ldS_at (o := 0 + 0) g30 rfl) ?_))
   have lk : lookE decB (.bool false) h30 (some mb) (.string ln.1) = some ((lkM ln.1 es).getD false, (lkM ln.1 es).isSome) := by
    have := P30.M.look (n := ln.1) (fun e _ => keyEq_S _ e.1) (dec := decB) (dv := fun v : Bool => v) (fun v => rfl) (z := .bool false) (z0 := false) rfl
    refine this.trans ?_
    cases lkM ln.1 es <;> rfl
   refine .bnd lk ?_
   cases c5 : (lkM ln.1 es).getD false with
   | true => exact bad54 _ rfl (lines_no fun w => by rw [← eln, c5] at w; exact absurd w.2.2.2.2 (by decide))
   | false =>
    have eL : linesP pid fr (d + 1) st at' es = (linesP pid fr d st' (at' + ln.2.2.1) (ptM ln.1 true es.length es)).map fun p => (itL pid at' ln :: p.1, p.2) := by
     conv => lhs; unfold linesP
     rw [← eln, ← est, if_pos ⟨hsome, c2, c3, c4, c5⟩]
    rw [eL] at hbad hgood
    rw [h54]
    refine .ifn (by simp) (.bnd rfl (.bnd (ldS_at (o := 0 + 0) g30 rfl) (.bnd rfl ?_)))
    obtain ⟨h57, u1, u2, u3, u4⟩ := P30.M.upd (n := ln.1) (fun e _ => keyEq_S _ e.1) true
    have n30' := k30.nx
    have g57 := u3.got (by omega) (by omega) g30
    refine .bnd u1 (.bnd rfl (Wp.st g57 (by simp) rfl fun h60 c60 n60 g60 => .bnd rfl (Wp.st g60 (by simp) rfl fun h62 c62 n62 g62 => .bnd rfl (.bnd (sldI_at (o := 0 + 1 + 3) g62 rfl) (.bnd rfl ?_)))))
    obtain ⟨x, ex⟩ : ∃ x : It, x = itL pid at' ln := ⟨_, rfl⟩
    have exc : itC x = [.string ln.1, .string pid, .int .i64 (ln.2.1 : Int), .int .i64 (at' : Int), .int .i64 (ln.2.2.1 : Int), .int .i64 (ln.2.2.2 : Int)] := by rw [ex]; rfl
    have cA : Chg (· = mb) r28.2 h62 := Chg.beh (T := (· = xb)) (Chg.beh (T := (· = xb)) ((Chg.keeps k30).trans u3) c60 fun y hy e => by have e : y = xb := e; omega) c62 fun y hy e => by have e : y = xb := e; omega
    have R62 := R28.chg (by omega) cA (show ¬ rb = mb by omega)
    have A62 := P28.A.chg cA fun a ha e => by have := (P28.A.lt a ha).2; have e : a.block = mb := e; omega
    have M62 := (u2.chg c60 (by omega) (show ¬ mb = xb by omega)).chg c62 (by omega) (show ¬ mb = xb by omega)
    have k62 : Keeps h0 h62 := P28.kp.keepsS cA fun y hy => by have hy : y = mb := hy; omega
    obtain ⟨s', h', a, A', c', d'⟩ := A62.push itC_len itC_one x (bytes := 64) (by decide) (by omega) (by omega)
    refine .bnd (sldA_at g62 rfl) (.bnd (decI6 (ln.1, pid, (ln.2.1 : Int), (at' : Int), (ln.2.2.1 : Int), (ln.2.2.2 : Int))) (Wp.newE fun h68 e68 k68 n68 g68 => ?_))
    have e68' : h68 = h62.new (.cells (itC x) 57 true 0) := by rw [e68, exc]
    rw [← e68'] at a
    have er : Gx.rdS 6 ⟨some ⟨h62.next, 0, some 0⟩, 1, 1⟩ h68 = some (itC x) := by rw [e68']; exact rdS_oneW itC_len x 57
    refine .bnd er (.bnd a ?_)
    rw [show IntKind.wrap .i64 ((at' : Int) + (ln.2.2.1 : Int)) = ((at' + ln.2.2.1 : Nat) : Int) by rw [Gx.w64 _ (by omega)]; omega, Gx.w1 (by omega)]
    have no : ∀ y, ofS o y → mb + 1 ≤ y := fun y ⟨b, hb, e⟩ => by have := (A62.lt b hb).2; omega
    have nx' := c'.nx
    have P' : PL h0 h' rb mb st' (ptM ln.1 true es.length es) s' (its ++ [x]) :=
     ⟨k62.keepsS c' fun y hy => by have := no y hy; omega, R62.chg (by omega) c' (fun w => by have := no _ w; omega), M62.chg c' (by omega) (fun w => by have := no _ w; omega), A', plr, by omega, ph⟩
    refine ih (i + 1) (at' + ln.2.2.1) st' _ s' (its ++ [x]) h' (by omega) (by omega) (by simp; omega) P' (fun hn => hbad (by rw [hn]; rfl)) fun its' st'' at'' H' o' es' hs PP => ?_
    refine hgood (x :: its') st'' at'' H' o' es' (by rw [hs, ex]; rfl) ?_
    rw [List.append_assoc] at PP
    exact PP
  have kd := kind_dec ln.2.1
  refine .bnd (sldI_at g30 rfl) ?_
  by_cases ck : ln.2.1 = 1
  ·exact .ifp (kd.1.2 ck) (J42 true (by simp [ck]))
  ·refine .ifn (fun w => ck (kd.1.1 w)) (.bnd (sldI_at g30 rfl) (J42 _ ?_))
   rw [kd.2]
   omega
theorem parse_spec14 (D : CallF) {h : AHeap} (kg : KG 0 h) (hk : 1200000 ≤ k) (s : ByteArray) : Gx.Wp (pack_Parse k D s h) fun z => Keeps h z.2 ∧ match parseK (bl s) with
  | some its => ∃ sl, z.1 = (sl, 0) ∧ AccW 6 itC 57 h.next z.2 sl its
  | none => z.1 = (⟨none, 0, 0⟩, 140) := by
 simp only [pack_Parse]
 have bs : (bl s).length = s.size := bl_length s
 refine .call (parts_spec D (by omega) s) fun r1 ⟨k1, q1⟩ => ?_
 cases hp : partsP (bl s) with
 | none =>
  rw [hp] at q1
  have e : parseK (bl s) = none := by unfold parseK; rw [hp]
  rw [e]
  exact .ifp (by rw [q1]; rfl) (.of ⟨k1, rfl⟩)
 | some x =>
  obtain ⟨fr, dir⟩ := x
  rw [hp] at q1
  simp only [] at q1
  rw [q1]
  have hpf : fr ≤ 65536 ∧ 5 ≤ fr ∧ dir.length ≤ 65536 ∧ s.size ≤ 65536 := by
   unfold partsP at hp
   split at hp
   ·rename_i c
    split at hp
    ·cases hp
    ·rename_i c2
     cases hp
     refine ⟨by omega, by omega, ?_, by omega⟩
     rw [List.length_drop, List.length_take]; omega
   ·cases hp
  have eK : parseK (bl s) = match linesP ⟨⟨digest (bl s)⟩⟩ fr (opS 4096 (some dir)).1 (opS 4096 (some dir)).2 5 [] with
   | some (its, st, at') => if st = some [] ∧ at' = fr then some its else none
   | none => none := by unfold parseK; rw [hp] <;> rfl
  refine .ifn (by simp) (.bnd (Ge.B.read_spec k D ⟨⟨dir⟩⟩ r1.2) ?_)
  obtain ⟨h2, e2⟩ : ∃ h2, h2 = r1.2.new (.cells [.string (⟨⟨dir⟩⟩ : ByteArray), .int .i64 0] 157 true 0) := ⟨_, rfl⟩
  have k2 : Keeps r1.2 h2 := e2 ▸ Keeps.new _ _
  have g2 : h2.get r1.2.next = some (.cells [.string (⟨⟨dir⟩⟩ : ByteArray), .int .i64 0] 157 true 0) := by rw [e2]; simp
  have n2 : h2.next = r1.2.next + 1 := by rw [e2]; rfl
  rw [← e2]
  have P2 : PRd h2 r1.2.next (some dir) := PRd.ok (l := dir) g2 (by omega)
  refine .call (rshort_spec D (by omega) P2 4096) fun r3 ⟨q3, P3, c3⟩ => Wp.newE fun h4 e4 k4 n4 g4 => ?_
  have n3 := c3.nx
  have nk1 := k1.nx
  have k3 : Keeps r1.2 r3.2 := k2.keepsS c3 fun y hy => by have hy : y = r1.2.next := hy; omega
  have R4 : Row encS h4 ⟨some ⟨r3.2.next, 0, some 0⟩, 1, 1⟩ [s] := Row.of_block (enc := encS) (xs := [s]) g4 (by omega) fun i z hz => by
   match i with
   | 0 => simp at hz; subst hz; rfl
   | i + 1 => simp at hz
  have ec : Ge.B.catL [s] = bl s := by simp [Ge.B.catL]
  refine .call (Ge.B.sum_spec (by omega) D (((kg.chg k1 fun f => f).chg k3 fun f => f).chg k4 fun f => f) R4 (by rw [ec]; omega) (by rw [ec]; omega) (by simp; omega) (by simp)) fun r5 ⟨q5, k5⟩ => ?_
  rw [ec] at q5
  rw [q5, q3]
  have n5 := k5.nx
  refine Wp.newE fun h6 e6 k6 n6 g6 => Wp.jn fun j12 h12 => ?_
  have k36 : Keeps r3.2 h6 := (k4.trans k5).trans k6
  have P6 : PL h h6 r1.2.next r5.2.next (opS 4096 (some dir)).2 [] ⟨none, 0, 0⟩ [] :=
   ⟨(k1.trans k3).trans k36, P3.keeps (by omega) k36, g6, AccW.nil _ _ _ _ _, by omega, by omega, nk1⟩
  unfold pack_Parse_l0
  have hm := opS_le 4096 (some dir)
  obtain ⟨bot, eb⟩ := iterK_of (fun _ _ _ _ _ _ _ _ _ => none) (pack_Parse_l0b k D j12) (show (opS 4096 (some dir)).1 + 1 ≤ k by omega)
  rw [eb, show (0 : Int) = ((0 : Nat) : Int) from rfl, show (5 : Int) = ((5 : Nat) : Int) from rfl]
  refine lines_loop D (by omega) (by omega) hm bot _ 0 5 _ [] ⟨none, 0, 0⟩ [] h6 (by omega) hpf.2.1 rfl P6 (fun hn H' kk => ?_) fun its' st' at'' H' o' es' hs PP => ?_
  ·rw [eK, hn]
   exact ⟨kk, rfl⟩
  ·rw [List.nil_append] at PP
   rw [hs] at eK
   simp only [] at eK
   rw [h12]
   refine Wp.jn fun j16 h16 => .call (rend_spec D PP.R) fun r17 ⟨q17, c17⟩ => ?_
   have bad : ∀ y, y = true → parseK (bl s) = none → Gx.Wp (j16 o' y r17.2) fun z => Keeps h z.2 ∧ match parseK (bl s) with
     | some its => ∃ sl, z.1 = (sl, 0) ∧ AccW 6 itC 57 h.next z.2 sl its
     | none => z.1 = (⟨none, 0, 0⟩, 140) := fun y hy hn => by
    rw [h16, hn]
    exact .ifp hy (.of ⟨PP.kp.keepsS c17 fun y hy => by have hy : y = r1.2.next := hy; omega, rfl⟩)
   by_cases c1 : st' = some []
   rotate_left
   ·exact .ifp (by simp; exact fun w => c1 (q17.1 w)) (bad true rfl (by rw [eK, if_neg (fun w => c1 w.1)]))
   refine .ifn (by rw [q17.2 c1]; decide) ?_
   by_cases c2 : at'' = fr
   rotate_left
   ·exact bad _ (by simp; omega) (by rw [eK, if_neg (fun w => c2 w.2)])
   rw [eK, if_pos ⟨c1, c2⟩, h16]
   refine .ifn (by rw [c2]; simp) (.of ⟨PP.kp.keepsS c17 fun y hy => by have hy : y = r1.2.next := hy; omega, o', rfl, ?_⟩)
   have A := PP.A.chg c17 fun a ha e => by have := (PP.A.lt a ha).2; have := PP.lr; have e : a.block = r1.2.next := e; omega
   exact ⟨A.st, fun a ha => ⟨(A.lt a ha).1, by have := (A.lt a ha).2; have := PP.lr; omega⟩⟩
end
end Ge
namespace Ge
open Go Gx
abbrev Tx := Nat × ByteArray
def okT (x : Tx) : Prop := (x.1 = 1 ∨ x.1 = 2) ∧ x.2.size ≤ 60000
def blobsP (ts : List Tx) : List UInt8 := ts.flatMap fun x => encP x.1 (bl x.2)
def linesB (ts : List Tx) : List UInt8 := ts.flatMap fun x => lineA x.1 x.2
def idT (x : Tx) : ByteArray := idB x.1 (bl x.2)
def lenT (x : Tx) : Nat := (encP x.1 (bl x.2)).length
def itsOf (pid : ByteArray) : List Tx → Nat → List It
 | [], _ => []
 | x :: r, off => (idT x, pid, (x.1 : Int), (off : Int), (lenT x : Int), (x.2.size : Int)) :: itsOf pid r (off + lenT x)
theorem itsOf_len (pid : ByteArray) : ∀ (ts : List Tx) (off : Nat), (itsOf pid ts off).length = ts.length
 | [], _ => rfl
 | x :: r, off => by simp [itsOf, itsOf_len pid r]
theorem itsOf_app (pid : ByteArray) (x : Tx) : ∀ (ts : List Tx) (off : Nat), itsOf pid (ts ++ [x]) off = itsOf pid ts off ++ [(idT x, pid, (x.1 : Int), ((off + (blobsP ts).length : Nat) : Int), (lenT x : Int), (x.2.size : Int))]
 | [], off => by simp [itsOf, blobsP]
 | y :: r, off => by
  rw [List.cons_append, itsOf, itsOf_app pid x r, itsOf, List.cons_append]
  have : (blobsP (y :: r)).length = lenT y + (blobsP r).length := by unfold blobsP lenT; rw [List.flatMap_cons, List.length_append]
  rw [this, show off + lenT y + (blobsP r).length = off + (lenT y + (blobsP r).length) by omega]
theorem itsOf_set (pid p2 : ByteArray) : ∀ (ts : List Tx) (off : Nat), (itsOf pid ts off).map (setP p2) = itsOf p2 ts off
 | [], _ => rfl
 | x :: r, off => by rw [itsOf, List.map_cons, itsOf_set pid p2 r]; rfl
structure GoodP (q : PSt) (ts : List Tx) : Prop where
 b : q.1 = magicB ++ blobsP ts
 d : q.2.1 = linesB ts
 i : q.2.2.1 = itsOf ⟨#[]⟩ ts 5
 m : ∀ id, lkM id q.2.2.2 = none ↔ id ∉ ts.map idT
 n : (ts.map idT).Nodup
 k : ∀ x ∈ ts, okT x
theorem GoodP.nil : GoodP st0P [] := ⟨by simp [st0P, blobsP], rfl, rfl, fun id => by simp [st0P, lkM], List.nodup_nil, fun x hx => by cases hx⟩
theorem GoodP.add {q : PSt} {ts : List Tx} (G : GoodP q ts) {c : Nat} {t : ByteArray} (hx : okT (c, t)) (hn : lkM (idB c (bl t)) q.2.2.2 = none) : GoodP (addQ q c t) (ts ++ [(c, t)]) := by
 have hid := (G.m (idB c (bl t))).1 hn
 refine ⟨?_, ?_, ?_, fun id => ?_, ?_, fun x h => ?_⟩
 ·show q.1 ++ encP c (bl t) = _
  rw [G.b, List.append_assoc]; simp [blobsP]
 ·show q.2.1 ++ lineA c t = _
  rw [G.d]; simp [linesB]
 ·show q.2.2.1 ++ [itP q c t] = _
  rw [G.i, itsOf_app]
  congr 2
  unfold itP
  rw [G.b, List.length_append]
  rfl
 ·show lkM id (ptM (idB c (bl t)) t q.2.2.2.length q.2.2.2) = none ↔ _
  rw [lkM_ptM, List.map_append, List.mem_append]
  by_cases e : id = idB c (bl t)
  ·rw [if_pos e]
   constructor
   ·intro h; cases h
   ·intro h; exact absurd (.inr (by rw [e]; simp [idT])) h
  ·rw [if_neg e, G.m id]
   constructor
   ·rintro h (w | w)
    ·exact h w
    ·simp [idT] at w; exact e w
   ·intro h w; exact h (.inl w)
 ·rw [List.map_append, List.nodup_append]
  refine ⟨G.n, by simp, fun a ha b hb e => ?_⟩
  simp [idT] at hb
  rw [hb] at e
  exact hid (e ▸ ha)
 ·rcases List.mem_append.1 h with h | h
  ·exact G.k x h
  ·rw [List.mem_singleton.1 h]; exact hx
theorem lineA_len (c : Nat) (t : ByteArray) (ht : t.size ≤ 60000) : (lineA c t).length ≤ 39 ∧ 35 ≤ (lineA c t).length := by
 have bt : (bl t).length = t.size := bl_length t
 obtain ⟨e1, e2⟩ := encP_len (c := c) (t := bl t) (by omega)
 have l1 := leb_len 2 (encP c (bl t)).length (by omega)
 have l2 := leb_len 2 t.size (by omega)
 have p1 := leb_pos (encP c (bl t)).length
 have p2 := leb_pos t.size
 unfold lineA lineP
 simp only [List.length_append, List.length_cons]
 have : (bl (idB c (bl t))).length = 32 := rfl
 omega
theorem opL_line {x : Tx} (h : okT x) (r : List UInt8) : opL (some (lineA x.1 x.2 ++ r)) = ((idT x, x.1, lenT x, x.2.size), some r) := by
 obtain ⟨hc, hs⟩ := h
 have bt : (bl x.2).length = x.2.size := bl_length x.2
 obtain ⟨e1, e2⟩ := encP_len (c := x.1) (t := bl x.2) (by omega)
 have e32 : (bl (idT x)).length = 32 := rfl
 have eq : lineA x.1 x.2 ++ r = bl (idT x) ++ (UInt8.ofNat x.1 :: (leb (lenT x) ++ (leb x.2.size ++ r))) := by
  unfold lineA lineP idT lenT
  simp
 have oB : opB 32 (some (lineA x.1 x.2 ++ r)) = (idT x, some (UInt8.ofNat x.1 :: (leb (lenT x) ++ (leb x.2.size ++ r)))) := by
  rw [eq]
  unfold opB
  simp only []
  rw [if_pos (by rw [List.length_append, e32]; omega), ← e32, List.take_left, List.drop_left]
  rfl
 have oc : (UInt8.ofNat x.1).toNat = x.1 := by rw [UInt8.toNat_ofNat']; omega
 have oS : ∀ {n : Nat} (r : List UInt8), n ≤ 65536 → opS 65536 (some (leb n ++ r)) = (n, some r) := fun r hn => by
  unfold opS
  rw [Option.bind_some, pS_ofl hn]
 unfold opL
 simp only [oB]
 have oF : opF (some (UInt8.ofNat x.1 :: (leb (lenT x) ++ (leb x.2.size ++ r)))) = (x.1, some (leb (lenT x) ++ (leb x.2.size ++ r))) := by
  unfold opF; simp only []; rw [oc]
 simp only [oF]
 rw [oS (n := lenT x) _ (by unfold lenT; omega)]
 simp only []
 rw [oS _ (by omega)]
theorem lines_back (pid : ByteArray) (fr : Nat) : ∀ (ts : List Tx) (at' : Nat) (es : List (ByteArray × Bool × Nat)), (∀ x ∈ ts, okT x) → (ts.map idT).Nodup → (∀ x ∈ ts, lkM (idT x) es = none) → at' + (blobsP ts).length ≤ fr →
  linesP pid fr ts.length (some (linesB ts)) at' es = some (itsOf pid ts at', some [], at' + (blobsP ts).length)
 | [], at', es, _, _, _, _ => by simp [linesP, linesB, itsOf, blobsP]
 | x :: r, at', es, hk, hn, he, hl => by
  have hx := hk x (by simp)
  have bt : (bl x.2).length = x.2.size := bl_length x.2
  obtain ⟨e1, e2⟩ := encP_len (c := x.1) (t := bl x.2) (by have := hx.2; omega)
  have lb : (blobsP (x :: r)).length = lenT x + (blobsP r).length := by unfold blobsP lenT; rw [List.flatMap_cons, List.length_append]
  have ll : linesB (x :: r) = lineA x.1 x.2 ++ linesB r := by unfold linesB; rw [List.flatMap_cons]
  rw [List.map_cons, List.nodup_cons] at hn
  rw [ll, List.length_cons]
  unfold linesP
  rw [opL_line hx]
  have hle : 1 ≤ lenT x := by unfold lenT; omega
  rw [if_pos ⟨rfl, hx.1, hle, by show lenT x ≤ fr - at'; omega, by show (lkM (idT x) es).getD false = false; rw [he x (by simp)]; rfl⟩]
  show (linesP pid fr r.length (some (linesB r)) (at' + lenT x) (ptM (idT x) true es.length es)).map _ = _
  rw [lines_back pid fr r (at' + lenT x) _ (fun y hy => hk y (by simp [hy])) hn.2 (fun y hy => ?_) (by omega)]
  ·rw [Option.map_some, lb, show at' + lenT x + (blobsP r).length = at' + (lenT x + (blobsP r).length) by omega]
   rfl
  ·rw [lkM_ptM, if_neg (fun e => hn.1 (by rw [← e]; exact List.mem_map_of_mem hy)), he y (by simp [hy])]
theorem parse_fin {q : PSt} {ts : List Tx} (G : GoodP q ts) (hts : ts.length ≤ 4096) (hl : (finB q).length ≤ 65536) (hne : ts ≠ []) : parseK (finB q) = some (finI q) := by
 have hlen : 0 < ts.length := List.length_pos_iff.2 hne
 have li : q.2.2.1.length = ts.length := by rw [G.i, itsOf_len]
 have l1 : q.1.length = 5 + (blobsP ts).length := by rw [G.b, List.length_append]; rfl
 have ll := leb_pos q.2.2.1.length
 have dl : (dirB q).length = (leb q.2.2.1.length).length + q.2.1.length := List.length_append
 have fl : (B.fixL (dirB q).length 4).length = 4 := B.fixL_length _ _
 have lF : (finB q).length = q.1.length + ((dirB q).length + (4 + 4)) := by unfold finB; simp only [List.length_append, fl]; rfl
 have e8 : (finB q).length - 8 = q.1.length + (dirB q).length := by omega
 have d8 : (finB q).drop (q.1.length + (dirB q).length) = B.fixL (dirB q).length 4 ++ endB := by
  unfold finB
  rw [← List.append_assoc, ← List.length_append, List.drop_left]
 have t8 : (finB q).take (q.1.length + (dirB q).length) = q.1 ++ dirB q := by
  unfold finB
  rw [← List.append_assoc, ← List.length_append, List.take_left]
 have n4 : B.numL 0 ((B.fixL (dirB q).length 4 ++ endB).take 4) = (dirB q).length := by
  rw [List.take_append_of_le_length (by omega), List.take_of_length_le (by omega), B.num_fix, Nat.mod_eq_of_lt (by omega)]
 have hp : partsP (finB q) = some (q.1.length, dirB q) := by
  unfold partsP
  rw [e8, d8, n4, t8]
  have h1 : (finB q).take 5 = magicB := by
   unfold finB
   rw [G.b, List.append_assoc, List.take_append_of_le_length (by decide)]; rfl
  have h2 : (finB q).drop ((finB q).length - 4) = endB := by
   have e : finB q = (q.1 ++ (dirB q ++ B.fixL (dirB q).length 4)) ++ endB := by unfold finB; simp
   have e4 : (finB q).length - 4 = (q.1 ++ (dirB q ++ B.fixL (dirB q).length 4)).length := by simp only [List.length_append, fl]; omega
   rw [e4, e, List.drop_left]
  rw [if_pos ⟨hl, by omega, h1, h2⟩, if_neg (by omega), show q.1.length + (dirB q).length - (dirB q).length = q.1.length by omega, List.drop_left]
 unfold parseK
 rw [hp]
 simp only []
 have oS : opS 4096 (some (dirB q)) = (ts.length, some (linesB ts)) := by
  unfold opS dirB
  rw [Option.bind_some, li, G.d]
  have : pS 4096 (leb ts.length ++ linesB ts) = some (ts.length, linesB ts) := by
   unfold pS
   rw [lebQ_of 8 _ (by omega) (fun h => by cases h)]
   simp; omega
  rw [this]
 rw [oS]
 simp only []
 rw [lines_back _ _ ts 5 [] G.k G.n (fun x _ => rfl) (by omega)]
 simp only []
 rw [if_pos ⟨trivial, by omega⟩]
 unfold finI
 rw [G.i, itsOf_set]
theorem parse_none {l : List UInt8} (h : parseK l = some []) : l.length = 14 := by
 unfold parseK at h
 cases hp : partsP l with
 | none => rw [hp] at h; cases h
 | some x =>
  obtain ⟨fr, dir⟩ := x
  rw [hp] at h
  simp only [] at h
  have hpf : 14 ≤ l.length ∧ fr + dir.length + 8 = l.length ∧ 5 ≤ fr := by
   unfold partsP at hp
   split at hp
   ·rename_i c
    split at hp
    ·cases hp
    ·rename_i c2
     cases hp
     rw [List.length_drop, List.length_take]
     omega
   ·cases hp
  cases he : linesP ⟨⟨digest l⟩⟩ fr (opS 4096 (some dir)).1 (opS 4096 (some dir)).2 5 [] with
  | none => rw [he] at h; cases h
  | some y =>
   obtain ⟨its, st, at'⟩ := y
   rw [he] at h
   simp only [] at h
   split at h
   ·rename_i c
    obtain ⟨c1, c2⟩ := c
    obtain rfl : its = [] := Option.some.inj h
    cases hn : (opS 4096 (some dir)).1 with
    | zero =>
     rw [hn] at he
     simp only [linesP, Option.some.injEq, Prod.mk.injEq, true_and] at he
     obtain ⟨he1, he2⟩ := he
     rw [← he1] at c1
     have hd : dir.length = 1 := by
      unfold opS at hn c1
      rw [Option.bind_some] at hn c1
      cases hq : pS 4096 dir with
      | none => rw [hq] at c1; cases c1
      | some y =>
       obtain ⟨n, r⟩ := y
       rw [hq] at hn c1
       simp only [Option.some.injEq] at hn c1
       subst hn; subst c1
       have := (pS_leb hq)
       rw [this.1, leb_lt (by omega)]; rfl
     omega
    | succ n =>
     rw [hn] at he
     unfold linesP at he
     split at he
     ·rw [Option.map_eq_some_iff] at he
      obtain ⟨⟨a, b⟩, _, w⟩ := he
      cases w
     ·cases he
   ·cases h
theorem lines_pid (pid : ByteArray) (fr : Nat) : ∀ (n : Nat) (st : Rd) (at' : Nat) (es : List (ByteArray × Bool × Nat)) {its st' at''}, linesP pid fr n st at' es = some (its, st', at'') → ∀ x ∈ its, x.2.1 = pid
 | 0, st, at', es, its, st', at'', h, x, hx => by simp only [linesP] at h; cases h; cases hx
 | n + 1, st, at', es, its, st', at'', h, x, hx => by
  unfold linesP at h
  split at h
  ·cases hq : linesP pid fr n (opL st).2 (at' + (opL st).1.2.2.1) (ptM (opL st).1.1 true es.length es) with
   | none => rw [hq] at h; cases h
   | some y =>
    obtain ⟨a, b, c⟩ := y
    rw [hq] at h
    simp only [Option.map_some, Option.some.injEq, Prod.mk.injEq] at h
    obtain ⟨rfl, _, _⟩ := h
    rcases List.mem_cons.1 hx with rfl | hx
    ·rfl
    ·exact lines_pid pid fr n _ _ _ hq x hx
  ·cases h
theorem parse_pid {l : List UInt8} {its : List It} (h : parseK l = some its) : ∀ x ∈ its, x.2.1 = ⟨⟨digest l⟩⟩ := by
 unfold parseK at h
 split at h
 ·cases h
 ·split at h
  ·rename_i its' st at' he
   split at h
   ·cases h; exact lines_pid _ _ _ _ _ _ he
   ·cases h
  ·cases h
end Ge
namespace Ge
open Go Gx
section
variable {k pb mb : Nat} {H H' : AHeap} {s1 s2 si : Slc} {lim : Int} {q : PSt}
theorem PB.chgO {S : Nat → Prop} (B : PB H pb mb s1 s2 si lim q) (c : Chg S H H') (hs : ∀ y, OwnP pb mb s1 s2 si y → ¬ S y) : PB H' pb mb s1 s2 si lim q := by
 have nx := c.nx
 have hm := B.mlt
 have hl := B.lt
 obtain ⟨p1, p2, g, h1, h2⟩ := B.g
 exact ⟨⟨p1, p2, c.got hl (hs _ (.inl rfl)) g, h1, h2⟩, B.A1.chg c fun a ha => hs _ (.inr (.inr (.inl ⟨a, ha, rfl⟩))), B.A2.chg c fun a ha => hs _ (.inr (.inr (.inr (.inl ⟨a, ha, rfl⟩)))),
  B.A3.chg c fun a ha => hs _ (.inr (.inr (.inr (.inr ⟨a, ha, rfl⟩)))), B.M.chg c hm.2 (hs _ (.inr (.inl rfl))), by omega, by omega, B.ap⟩
theorem accS_cells {base : Nat} {s : Slc} {l : List ByteArray} {a : Addr} (A : Acc encS 9 base H s l) (ha : s.a = some a) : ∃ c, H.get a.block = some (.cells c 9 true 0) := by
 rcases A.st with ⟨h, _⟩ | ⟨b, g⟩
 ·rw [h] at ha; cases ha
 ·rw [g.s] at ha; cases ha; exact ⟨_, g.blk⟩
theorem PB.notS (B : PB H pb mb s1 s2 si lim q) {base : Nat} {s : Slc} {l : List ByteArray} (A : Acc encS 9 base H s l) : ∀ y, ofS s y → ¬ OwnP pb mb s1 s2 si y := fun y ⟨a, ha, e⟩ => by
 obtain ⟨c, g⟩ := accS_cells A ha
 rw [e]
 exact B.other g (by decide) (by decide) (by decide)
end
theorem blob_spec14 {k : Nat} {h : AHeap} (D : CallF) (kg : KG 0 h) (hk : 1200000 ≤ k) {s : ByteArray} (hs : s.size ≤ 1000000) {c off : Nat} (hc : c = 1 ∨ c = 2) {t pid : ByteArray} (ht : t.size ≤ 3000) (ho : off + (encP c (bl t)).length ≤ s.size)
  (he : ((bl s).drop off).take (encP c (bl t)).length = encP c (bl t)) :
  Gx.Wp (pack_Blob k D s (pid, (c : Int), (off : Int), ((encP c (bl t)).length : Int), (t.size : Int)) (idB c (bl t)) h) fun z => z.1 = ((c : Int), t, 0) ∧ Keeps h z.2 := by
 simp only [pack_Blob]
 have bt : (bl t).length = t.size := bl_length t
 have bs : (bl s).length = s.size := bl_length s
 obtain ⟨e1, e2⟩ := encP_len (c := c) (t := bl t) (by omega)
 obtain ⟨n, en⟩ : ∃ n, n = (encP c (bl t)).length := ⟨_, rfl⟩
 rw [← en] at ho he e1 e2 ⊢
 refine Wp.newE fun h1 e1' k1 n1 g1 => Wp.jn fun j7 h7 => ?_
 refine .bnd (sldI_at g1 rfl) (.ifn (fun w => by have := of_decide_eq_true w; omega) (.bnd (sldI_at g1 rfl) (.ifn (fun w => by have := of_decide_eq_true w; omega) (.bnd (sldI_at g1 rfl) (.ifn (fun w => by have := of_decide_eq_true w; omega) (.bnd (sldI_at g1 rfl) (.bnd (sldI_at g1 rfl) ?_)))))))
 rw [show IntKind.wrap .i64 ((s.size : Int) - (off : Int)) = ((s.size - off : Nat) : Int) by rw [Gx.w64 _ (by omega)]; omega, h7]
 refine .ifn (fun w => by have := of_decide_eq_true w; omega) (.bnd rfl (.bnd (sldI_at (o := 0 + 2) g1 rfl) (.bnd rfl (.bnd (sldI_at (o := 0 + 2) g1 rfl) (.bnd rfl (.bnd (sldI_at (o := 0 + 3) g1 rfl) ?_))))))
 rw [show IntKind.wrap .i64 ((off : Int) + (n : Int)) = ((off + n : Nat) : Int) by rw [Gx.w64 _ (by omega)]; omega]
 refine .bnd (subS_of (i := off) (j := off + n) rfl rfl (by omega) ho) ?_
 rw [List.drop_take, show off + n - off = n by omega, he]
 refine .call (open_spec D (kg.chg k1 fun f => f) hk (by rw [size_mk, ← en]; omega) (idB c (bl t))) fun r15 ⟨q15, k15⟩ => ?_
 have e15 : r15.1 = ((c : Int), t, 0) := by
  rw [q15, bl_mk]; unfold opnV; rw [decP_enc hc (by omega)]; simp only []; rw [if_pos trivial]; rfl
 have g15 := k15.got (by omega) g1
 rw [e15]
 refine .ifn (by simp) (Wp.jn fun j20 h20 => .bnd rfl (.bnd (sldI_at (o := 0 + 1) g15 rfl) (.ifn (by simp) (.bnd rfl (.bnd (sldI_at (o := 0 + 4) g15 rfl) ?_)))))
 rw [h20]
 exact .ifn (by simp) (.of ⟨rfl, k1.trans k15⟩)
theorem same_true {k : Nat} {h : AHeap} (D : CallF) {a b : Slc} {its : List It} (Ra : RowW 6 itC h a its) (Rb : RowW 6 itC h b its) (hl : its.length ≤ 100000) (hk : its.length + 2 ≤ k) : law14_same k D a b h = some (true, h) := by
 simp only [law14_same]
 have la := Ra.len; have lb := Rb.len
 refine ifn (by rw [la, lb]; simp) (jn ?_)
 obtain ⟨j2, hj⟩ : ∃ j2, j2 = (fun (h1 : AHeap) => some (true, h1)) := ⟨_, rfl⟩
 rw [← hj]
 unfold law14_same_l0
 obtain ⟨bot, eb⟩ := iterK_of (fun _ _ _ _ => none) (law14_same_l0b k D j2) (show its.length + 1 ≤ k by omega)
 rw [eb]
 have loop : ∀ d i : Nat, i + d = its.length → iterK bot (d + 1) (law14_same_l0b k D j2) a b (i : Int) h = some (true, h) := fun d => by
  induction d with
  | zero =>
   intro i hd
   rw [iterK_s]; simp only [law14_same_l0b]
   refine ifn (by rw [la]; simp; omega) ?_
   rw [hj]
  | succ d ih =>
   intro i hd
   rw [iterK_s]; simp only [law14_same_l0b]
   obtain ⟨x, hx⟩ := isome (l := its) (i := i) (by omega)
   obtain ⟨pa, a1, a2, _⟩ := Ra.ld itC_len (by decide) hx
   obtain ⟨pb, b1, b2, _⟩ := Rb.ld itC_len (by decide) hx
   refine ifp (by rw [la]; simp; omega) (bnd a1 (bnd a2 (bnd (decI6 x) (bnd b1 (bnd b2 (bnd (decI6 x) ?_))))))
   refine ifn (by simp [ba_beq]) ?_
   rw [Gx.w1 (by omega)]
   exact ih (i + 1) (by omega)
 exact loop its.length 0 (by omega)
theorem GoodP.sizes {q : PSt} {ts : List Tx} (G : GoodP q ts) {m : Nat} (hm : m ≤ 3000) (h : ∀ x ∈ ts, x.2.size ≤ m) : q.1.length ≤ 5 + (m + 4) * ts.length ∧ q.2.1.length ≤ 39 * ts.length ∧ q.2.2.1.length = ts.length := by
 have h1 : ∀ ts : List Tx, (∀ x ∈ ts, okT x ∧ x.2.size ≤ m) → (blobsP ts).length ≤ (m + 4) * ts.length ∧ (linesB ts).length ≤ 39 * ts.length := fun ts => by
  induction ts with
  | nil => intro _; exact ⟨by simp [blobsP], by simp [linesB]⟩
  | cons x r ih =>
   intro hx
   obtain ⟨i1, i2⟩ := ih fun y hy => hx y (by simp [hy])
   have hx0 := hx x (by simp)
   have bt : (bl x.2).length = x.2.size := bl_length x.2
   have el := (encP_len (c := x.1) (t := bl x.2) (by omega)).1
   have ll := (lineA_len x.1 x.2 hx0.1.2).1
   have e1 : (blobsP (x :: r)).length = (encP x.1 (bl x.2)).length + (blobsP r).length := by unfold blobsP; rw [List.flatMap_cons, List.length_append]
   have e2 : (linesB (x :: r)).length = (lineA x.1 x.2).length + (linesB r).length := by unfold linesB; rw [List.flatMap_cons, List.length_append]
   rw [e1, e2, List.length_cons, Nat.mul_succ, Nat.mul_succ]
   omega
 obtain ⟨a, b⟩ := h1 ts fun x hx => ⟨G.k x hx, h x hx⟩
 refine ⟨?_, by rw [G.d]; exact b, by rw [G.i, itsOf_len]⟩
 rw [G.b, List.length_append]
 show 5 + _ ≤ _
 omega
structure L1 (h H : AHeap) (pb mb : Nat) (s1 s2 si w ids : Slc) (q : PSt) (ts : List Tx) : Prop where
 kp : Keeps h H
 hp : h.next ≤ pb
 B : PB H pb mb s1 s2 si 65536 q
 G : GoodP q ts
 sm : ∀ x ∈ ts, x.2.size ≤ 300
 W : Acc encS 9 h.next H w (ts.map (·.2))
 I : Acc encS 9 h.next H ids (ts.map idT)
 ap : ApartS w ids
theorem kindI (i : Nat) : IntKind.wrap .i64 (1 + Int.tmod (i : Int) 2) = ((1 + i % 2 : Nat) : Int) := by
 rw [Int.tmod_eq_emod_of_nonneg (by omega), Gx.w64 _ (by omega)]; omega
section
variable {k pb : Nat} {h : AHeap} {texts : Slc} {xs : List ByteArray}
theorem add_loop (D : CallF) (kg : KG 0 h) (hk : 1200000 ≤ k) (R : Row encS h texts xs) {j13 : Int → (Option Addr) → Slc → Slc → AHeap → Option (Bool × AHeap)} {Q : Bool × AHeap → Prop} (at' : Int)
  (J : ∀ H mb s1 s2 si w ids q ts, L1 h H pb mb s1 s2 si w ids q ts → ts.length ≤ 20 → Gx.Wp (j13 at' (some ⟨pb, 0, none⟩) w ids H) Q) (bot) :
  ∀ (d i : Nat) (H : AHeap) (mb : Nat) (s1 s2 si w ids : Slc) (q : PSt) (ts : List Tx), i + d = min 20 xs.length → ts.length ≤ i → L1 h H pb mb s1 s2 si w ids q ts →
  Gx.Wp (iterK bot (d + 1) (law14_PackBack_l1b k D j13) texts at' (some ⟨pb, 0, none⟩) w ids (i : Int) H) Q := by
 have tl : texts.len = xs.length := R.1
 intro d
 induction d with
 | zero =>
  intro i H mb s1 s2 si w ids q ts hd ht P
  rw [iterK_s]; simp only [law14_PackBack_l1b]
  refine Wp.jn fun j99 h99 => ?_
  rw [tl]
  by_cases c : i < xs.length
  ·refine .ifp (decide_eq_true (by omega)) ?_
   rw [h99, decide_eq_false (by omega)]
   exact .ifn (by decide) (J H mb s1 s2 si w ids q ts P (by omega))
  ·refine .ifn (fun w => by have := of_decide_eq_true w; omega) ?_
   rw [h99]
   exact .ifn (by decide) (J H mb s1 s2 si w ids q ts P (by omega))
 | succ d ih =>
  intro i H mb s1 s2 si w ids q ts hd ht P
  rw [iterK_s]; simp only [law14_PackBack_l1b]
  refine Wp.jn fun j99 h99 => ?_
  rw [tl]
  refine .ifp (decide_eq_true (by omega)) ?_
  rw [h99, decide_eq_true (show (i : Int) < 20 by omega)]
  refine .ifp rfl (Wp.jn fun j107 h107 => ?_)
  obtain ⟨t, hx⟩ := isome (l := xs) (i := i) (by omega)
  have ld : ∀ {H : AHeap}, Keeps h H → ∃ p, idxL 1 texts (i : Int) = some p ∧ Gx.ldS p H = some t := fun kk => (R.keeps kk).ldS hx
  have go : ∀ H mb s1 s2 si w ids q ts, ts.length ≤ i + 1 → L1 h H pb mb s1 s2 si w ids q ts → Gx.Wp (j107 texts at' (some ⟨pb, 0, none⟩) w ids (i : Int) H) Q := fun H mb s1 s2 si w ids q ts ht P => by
   rw [h107]
   dsimp only
   rw [Gx.w1 (by omega)]
   exact ih (i + 1) H mb s1 s2 si w ids q ts (by omega) ht P
  obtain ⟨p0, a0, b0⟩ := ld P.kp
  refine .bnd a0 (.bnd b0 ?_)
  by_cases c1 : (t.size : Int) > 300
  ·exact .ifp (decide_eq_true c1) (go H mb s1 s2 si w ids q ts (by omega) P)
  refine .ifn (fun w => c1 (of_decide_eq_true w)) (.bnd a0 (.bnd b0 ?_))
  rw [kindI]
  obtain ⟨z1, z2, z3⟩ := P.G.sizes (m := 300) (by omega) P.sm
  have hc : 1 + i % 2 = 1 ∨ 1 + i % 2 = 2 := by omega
  refine .call (add_spec14 P.B D (kg.chg P.kp fun f => f) hk hc (t := t) (by omega) (by omega) (by omega) (by omega)) fun r112 ⟨q112, s1', s2', si', B', c'⟩ => ?_
  have kz : Keeps h r112.2 := P.kp.keepsS c' fun y hy => Nat.le_trans P.hp (P.B.ge hy).1
  have W' := P.W.chg c' fun a ha => P.B.notS P.W _ ⟨a, ha, rfl⟩
  have I' := P.I.chg c' fun a ha => P.B.notS P.I _ ⟨a, ha, rfl⟩
  rw [q112]
  cases hl : lkM (idB (1 + i % 2) (bl t)) q.2.2.2 with
  | some v =>
   have ev : addV 65536 q (1 + i % 2) t = ((⟨#[]⟩, 6), q) := by unfold addV; rw [hl]
   rw [ev] at B' ⊢
   exact .ifp rfl (go r112.2 mb s1' s2' si' w ids q ts (by omega) ⟨kz, P.hp, B', P.G, P.sm, W', I', P.ap⟩)
  | none =>
   have bt : (bl t).length = t.size := bl_length t
   have el := (encP_len (c := 1 + i % 2) (t := bl t) (by omega)).1
   have ll := (lineA_len (1 + i % 2) t (by omega)).1
   have lb : (leb (q.2.2.1.length + 1)).length ≤ 3 := leb_len 2 _ (by omega)
   have hT : tooP 65536 q (1 + i % 2) t = false := by
    unfold tooP longA longP
    refine decide_eq_false ?_
    omega
   have ev : addV 65536 q (1 + i % 2) t = ((idB (1 + i % 2) (bl t), 0), addQ q (1 + i % 2) t) := by unfold addV; rw [hl]; simp only []; rw [hT, if_neg (by decide)]
   rw [ev] at B' ⊢
   refine .ifn (by simp) (.ifn (by simp) ?_)
   obtain ⟨p1, a1, b1⟩ := ld kz
   refine .bnd a1 (.bnd b1 (Wp.newE fun h115 e115 k115 n115 g115 => ?_))
   have G' : GoodP (addQ q (1 + i % 2) t) (ts ++ [(1 + i % 2, t)]) := P.G.add ⟨hc, by show t.size ≤ 60000; omega⟩ hl
   obtain ⟨w', h116, a2, b2, W2, c2, d2⟩ := Acc.pushK W' (fun _ => rfl) t (bytes := 16) e115 (by simp; omega) (by decide) kz.nx
   have nw := B'.notS W'
   have B2 := B'.chgO c2 fun y hy w => nw y w hy
   have I2 := I'.chg c2 fun a ha ⟨b, hb, e⟩ => P.ap b a hb ha e.symm
   have ap2 : ApartS w' ids := fun a b ha hb e => by have := d2 a ha; have := (I'.lt b hb).1; omega
   have kz2 : Keeps h h116 := kz.keepsS c2 fun y ⟨a, ha, e⟩ => by rw [e]; exact (W'.lt a ha).2
   refine .bnd a2 (.bnd b2 (Wp.newE fun h118 e118 k118 n118 g118 => ?_))
   obtain ⟨i', h119, a3, b3, I3, c3, d3⟩ := Acc.pushK I2 (fun _ => rfl) (idB (1 + i % 2) (bl t)) (bytes := 16) e118 (by simp; omega) (by decide) kz2.nx
   have ni := B2.notS I2
   have B3 := B2.chgO c3 fun y hy w => ni y w hy
   have W3 := W2.chg c3 fun a ha ⟨b, hb, e⟩ => ap2 a b ha hb e
   have ap3 : ApartS w' i' := fun a b ha hb e => by have := d3 b hb; have := (W2.lt a ha).1; omega
   refine .bnd a3 (.bnd b3 (go h119 mb s1' s2' si' w' i' _ (ts ++ [(1 + i % 2, t)]) (by simp; omega) ⟨?_, P.hp, B3, G', ?_, ?_, ?_, ap3⟩))
   ·exact kz2.keepsS c3 fun y ⟨a, ha, e⟩ => by rw [e]; exact (I2.lt a ha).2
   ·intro x hx
    rcases List.mem_append.1 hx with hx | hx
    ·exact P.sm x hx
    ·rw [List.mem_singleton.1 hx]; show t.size ≤ 300; omega
   ·rw [List.map_append]; exact W3
   ·rw [List.map_append]; exact I3
end
end Ge
namespace Ge
open Go Gx
theorem itsOf_get (pid : ByteArray) : ∀ (ts : List Tx) (off i : Nat) (x : Tx), ts[i]? = some x → (itsOf pid ts off)[i]? = some (idT x, pid, (x.1 : Int), ((off + (blobsP (ts.take i)).length : Nat) : Int), (lenT x : Int), (x.2.size : Int))
 | [], _, i, x, h => by simp at h
 | y :: r, off, 0, x, h => by simp at h; subst h; simp [itsOf, blobsP]
 | y :: r, off, i + 1, x, h => by
  rw [itsOf, List.getElem?_cons_succ, itsOf_get pid r (off + lenT y) i x (by simpa using h), List.take_succ_cons]
  have : (blobsP (y :: r.take i)).length = lenT y + (blobsP (r.take i)).length := by unfold blobsP lenT; rw [List.flatMap_cons, List.length_append]
  rw [this, show off + lenT y + (blobsP (r.take i)).length = off + (lenT y + (blobsP (r.take i)).length) by omega]
theorem blobsP_app (a b : List Tx) : blobsP (a ++ b) = blobsP a ++ blobsP b := by simp [blobsP]
theorem slice_fin {q : PSt} {ts : List Tx} (G : GoodP q ts) {i : Nat} {x : Tx} (hx : ts[i]? = some x) :
  ((finB q).drop (5 + (blobsP (ts.take i)).length)).take (lenT x) = encP x.1 (bl x.2) ∧ 5 + (blobsP (ts.take i)).length + lenT x ≤ (finB q).length := by
 have e : ts = ts.take i ++ (x :: ts.drop (i + 1)) := by rw [← dropc hx, List.take_append_drop]
 have eb : blobsP ts = blobsP (ts.take i) ++ (encP x.1 (bl x.2) ++ blobsP (ts.drop (i + 1))) := by
  conv => lhs; rw [e]
  rw [blobsP_app]
  congr 1
 have ef : finB q = (magicB ++ blobsP (ts.take i)) ++ (encP x.1 (bl x.2) ++ (blobsP (ts.drop (i + 1)) ++ (dirB q ++ (B.fixL (dirB q).length 4 ++ endB)))) := by
  unfold finB
  rw [G.b, eb]; simp
 have l5 : (magicB ++ blobsP (ts.take i)).length = 5 + (blobsP (ts.take i)).length := by rw [List.length_append]; rfl
 constructor
 ·rw [ef, ← l5, List.drop_left]
  unfold lenT
  rw [List.take_left]
 ·rw [ef, List.length_append, l5, List.length_append]
  unfold lenT
  omega
theorem ldA_from {h : AHeap} {b o n : Nat} {c : List Value} {e : TypeId} {r : Bool} {fz : Nat} (hb : h.get b = some (.cells c e r fz)) (hn : 0 < n) (hl : o + n ≤ c.length) : ldA n ⟨b, o, none⟩ h = some ((c.drop o).take n) := by
 obtain ⟨m, rfl⟩ : ∃ m, n = m + 1 := ⟨n - 1, by omega⟩
 simp only [ldA]
 exact rdL_in hb hl
section
variable {k : Nat} {h : AHeap}
theorem read_loop (D : CallF) (kg : KG 0 h) (hk : 1200000 ≤ k) {q : PSt} {ts : List Tx} (G : GoodP q ts) (sm : ∀ x ∈ ts, x.2.size ≤ 300) (hts : ts.length ≤ 20) (hf : (finB q).length ≤ 65536) {l w ids : Slc} (Rl : RowW 6 itC h l (finI q)) (Rw : Row encS h w (ts.map (·.2))) (Ri : Row encS h ids (ts.map idT)) (at' : Int)
  {j27 : Int → ByteArray → AHeap → Option (Bool × AHeap)} {Q : Bool × AHeap → Prop} (J : ∀ H, Keeps h H → Gx.Wp (j27 at' (bA (finB q)) H) Q) (bot) :
  ∀ (d i : Nat) (H : AHeap), i + d = ts.length → Keeps h H → Gx.Wp (iterK bot (d + 1) (law14_PackBack_l0b k D j27) at' w ids (bA (finB q)) l (l.len : Int) (i : Int) H) Q := by
 have eI : finI q = itsOf ⟨⟨digest (finB q)⟩⟩ ts 5 := by unfold finI; rw [G.i, itsOf_set]
 have ll : l.len = ts.length := by rw [Rl.len, eI, itsOf_len]
 intro d
 induction d with
 | zero =>
  intro i H hd kp
  rw [iterK_s]; simp only [law14_PackBack_l0b]
  exact .ifn (by rw [ll]; simp; omega) (J H kp)
 | succ d ih =>
  intro i H hd kp
  rw [iterK_s]; simp only [law14_PackBack_l0b]
  obtain ⟨x, hx⟩ := isome (l := ts) (i := i) (by omega)
  have okx := G.k x (mem_of hx)
  have smx := sm x (mem_of hx)
  have bt : (bl x.2).length = x.2.size := bl_length x.2
  obtain ⟨sl1, sl2⟩ := slice_fin G hx
  obtain ⟨off, eoff⟩ : ∃ off, off = 5 + (blobsP (ts.take i)).length := ⟨_, rfl⟩
  rw [← eoff] at sl1 sl2
  obtain ⟨it, eit⟩ : ∃ it : It, it = (idT x, (⟨⟨digest (finB q)⟩⟩ : ByteArray), (x.1 : Int), (off : Int), (lenT x : Int), (x.2.size : Int)) := ⟨_, rfl⟩
  have hit : (finI q)[i]? = some it := by rw [eI, itsOf_get _ _ _ _ _ hx, ← eoff, ← eit]
  obtain ⟨p, a1, a2, _⟩ := (Rl.keeps kp).ld itC_len (by decide) hit
  have ew : (ts.map (·.2))[i]? = some x.2 := by rw [List.getElem?_map, hx]; rfl
  have ei : (ts.map idT)[i]? = some (idT x) := by rw [List.getElem?_map, hx]; rfl
  refine .ifp (by rw [ll]; simp; omega) (.bnd a1 (.bnd a2 (.bnd (decI6 it) (Wp.newE fun h56 e56 k56 n56 g56 => Wp.stL g56 rfl rfl rfl (by decide) fun h57 c57 n57 g57 => ?_))))
  have k57 : Keeps H h57 := k56.keepsS c57 fun y hy => by have hy : y = H.next := hy; omega
  have g57' : h57.get H.next = some (.cells (itC it) 57 true 0) := g57
  have l5 : ldA 5 ⟨H.next, 1, none⟩ h57 = some [.string (⟨⟨digest (finB q)⟩⟩ : ByteArray), .int .i64 (x.1 : Int), .int .i64 (off : Int), .int .i64 (lenT x : Int), .int .i64 (x.2.size : Int)] := by
   rw [ldA_from g57' (by decide) (by rw [itC_len]; decide), eit]; rfl
  have l0 : ∀ {H2 : AHeap}, Keeps h57 H2 → Gx.ldS ⟨H.next, 0, none⟩ H2 = some (idT x) := fun kk => ldS_at (kk.got (by omega) g57') (by rw [eit]; rfl)
  have l1 : ∀ {H2 : AHeap}, Keeps h57 H2 → Gx.ldS ⟨H.next, 1, none⟩ H2 = some ⟨⟨digest (finB q)⟩⟩ := fun kk => ldS_at (kk.got (by omega) g57') (by rw [eit]; rfl)
  refine .bnd l5 (.bnd (decA5 _ _ _ _ _) (.bnd (l0 (Chg.refl _ _)) ?_))
  have kz := kp.trans k57
  have ss : (bA (finB q)).size = (finB q).length := bA_size _
  refine .call (blob_spec14 (s := bA (finB q)) (c := x.1) (off := off) (t := x.2) (pid := ⟨⟨digest (finB q)⟩⟩) D (kg.chg kz fun f => f) hk (by omega) okx.1 (by omega) (by rw [ss]; exact sl2) sl1) fun r61 ⟨q61, k61⟩ => Wp.jn fun j71 h71 => ?_
  rw [q61]
  have kz61 := kz.trans k61
  obtain ⟨pw, b1, b2⟩ := (Rw.keeps kz61).ldS ew
  obtain ⟨pi, d1, d2⟩ := (Ri.keeps kz61).ldS ei
  refine .ifn (by simp) (.bnd b1 (.bnd b2 (.ifn (by rw [ba_beq]; simp) (.bnd (l0 k61) (.bnd d1 (.bnd d2 (.ifn (by rw [ba_beq]; simp) (Wp.newE fun h77 e77 k77 n77 g77 => ?_))))))))
  have R77 : Row encS h77 ⟨some ⟨r61.2.next, 0, some 0⟩, 1, 1⟩ [bA (finB q)] := Row.of_block (enc := encS) (xs := [bA (finB q)]) g77 (by omega) fun i z hz => by
   match i with
   | 0 => simp at hz; subst hz; rfl
   | i + 1 => simp at hz
  have ec : B.catL [bA (finB q)] = finB q := by simp [B.catL]; rfl
  refine .call (B.sum_spec (by omega) D ((kg.chg kz61 fun f => f).chg k77 fun f => f) R77 (by rw [ec]; omega) (by rw [ec]; omega) (by simp; omega) (by simp)) fun r78 ⟨q78, k78⟩ => ?_
  rw [ec] at q78
  have k5778 : Keeps h57 r78.2 := (k61.trans k77).trans k78
  refine .bnd (l1 k5778) (.gp (fun HH hH => ?_) ?_)
  ·simp only [List.mem_cons, List.not_mem_nil, or_false] at hH
   rcases hH with z | z
   ·rw [z]; exact bnd (l1 (k61.trans k77)) rfl
   ·rw [z]; exact bnd (l1 k61) rfl
  ·rw [h71, q78]
   refine .ifn (by rw [ba_beq]; simp) ?_
   rw [Gx.w1 (by omega)]
   exact ih (i + 1) r78.2 (by omega) (kz61.trans (k77.trans k78))
theorem bit_true (D : CallF) {H1 : AHeap} (kg1 : KG 0 H1) (hk : 3000000 ≤ k) {q : PSt} (hf : (finB q).length ≤ 20000) (hf2 : 14 < (finB q).length) (at' : Int) :
  Gx.Wp (((fun (atv24 : Int) (s25 : ByteArray) (h26 : AHeap) =>
    newK h26 ((.cells (bytesL s25) 5 true 18446744073709551616)) fun h28 =>
    (book_Among k D atv24 (IntKind.wrap .i64 (8 * (s25.size : Int))) h28).bind fun r29 =>
    (Gx.idxL 1 (⟨(some ⟨h26.next, 0, some 2⟩), s25.size, s25.size⟩ : Slc) (IntKind.wrap .i64 (Int.tdiv r29.1 8))).bind fun q30 =>
    (ldI .u8 q30 r29.2).bind fun x31 =>
    (if 0 ≤ (Int.tmod r29.1 8) then
    let t32 : Int := (IntKind.wrap .u8 (1 * 2 ^ (min ((Int.tmod r29.1 8)).toNat (IntKind.bits .u8))))
    (Gx.idxL 1 (⟨(some ⟨h26.next, 0, some 2⟩), s25.size, s25.size⟩ : Slc) (IntKind.wrap .i64 (Int.tdiv r29.1 8))).bind fun q33 =>
    (st1 q33 (.int .u8 (Go.bits .xor .u8 x31 t32)) r29.2).bind fun h34 =>
    (bytesOf h34 (⟨(some ⟨h26.next, 0, some 2⟩), s25.size, s25.size⟩ : Slc)).bind fun s35 =>
    (pack_Parse k D s35 h34).bind fun r36 =>
    (if (r36.1.2 != 0) = true then
    (if ((r36.1.1.len : Int) == 0) = true then
    some ((r36.1.2 == 140), r36.2)
    else
    some (false, r36.2))
    else
    (if (decide ((r36.1.1.len : Int) > 0)) = true then
    (bytesOf r36.2 (⟨(some ⟨h26.next, 0, some 2⟩), s25.size, s25.size⟩ : Slc)).bind fun s37 =>
    newK r36.2 ((.cells [.string s37] 9 true 0)) fun h38 =>
    (sha_Sum k D (⟨(some ⟨r36.2.next, 0, some 0⟩), 1, 1⟩ : Slc) h38).bind fun r39 =>
    (Gx.idxL 6 r36.1.1 0).bind fun q40 =>
    (ldS (⟨q40.block, q40.off + 1 + 0, none⟩ : Addr) r39.2).bind fun x41 =>
    guardP (SameW [h38, r36.2] (fun H43 => (ldS (⟨q40.block, q40.off + 1 + 0, none⟩ : Addr) H43).bind fun y42 => some (.string y42)) (.string x41)) (
    some ((x41 == r39.1), r39.2))
    else
    some (false, r36.2)))
    else none)) : Int → ByteArray → AHeap → Option (Bool × AHeap)) at' (bA (finB q)) H1) fun z => z.1 = true := by
 dsimp only
 have ss : (bA (finB q)).size = (finB q).length := bA_size _
 refine Wp.newE fun h28 e28 k28 n28 g28 => ?_
 rw [ss]
 obtain ⟨n, en⟩ : ∃ n, n = (finB q).length := ⟨_, rfl⟩
 rw [← en, show IntKind.wrap .i64 (8 * (n : Int)) = ((8 * n : Nat) : Int) by rw [Gx.w64 _ (by omega)]; omega]
 refine .bnd (among_eq (n := 8 * n) (by omega) (by omega) k D at' h28) ?_
 have am := amN_lt (n := 8 * n) (by omega) at'
 obtain ⟨a, ha⟩ : ∃ a, a = amN (8 * n) at' := ⟨_, rfl⟩
 dsimp only
 rw [← ha] at am ⊢
 have e1 : IntKind.wrap .i64 (Int.tdiv (a : Int) 8) = ((a / 8 : Nat) : Int) := by
  rw [show Int.tdiv (a : Int) 8 = ((a / 8 : Nat) : Int) from rfl, Gx.w64 _ (by omega)]
 have e2 : Int.tmod (a : Int) 8 = ((a % 8 : Nat) : Int) := by rw [Int.tmod_eq_emod_of_nonneg (by omega)]; omega
 rw [e1, e2]
 have g28' : h28.get H1.next = some (.cells ((finB q).map encB) 5 true 18446744073709551616) := g28
 obtain ⟨x, hx⟩ := isome (l := finB q) (i := a / 8) (by omega)
 have hxl2 := x.toNat_lt
 refine .bnd (idxL_out (by omega)) (.bnd (rdB_out g28' hx) (.ifp (by omega) ?_))
 have e3 : IntKind.wrap .u8 (1 * 2 ^ (min (((a % 8 : Nat) : Int)).toNat (IntKind.bits .u8))) = ((2 ^ (a % 8) : Nat) : Int) := by
  have hm : a % 8 < 8 := Nat.mod_lt _ (by decide)
  rw [Int.toNat_natCast, show min (a % 8) (IntKind.bits .u8) = a % 8 from Nat.min_eq_left (by show a % 8 ≤ 8; omega)]
  have : ∀ m : Fin 8, IntKind.wrap .u8 (1 * 2 ^ m.val) = ((2 ^ m.val : Nat) : Int) := by decide +kernel
  exact this ⟨a % 8, hm⟩
 have p8 : 2 ^ (a % 8) < 256 := Nat.pow_lt_pow_right (by decide) (show a % 8 < 8 from Nat.mod_lt _ (by decide))
 simp only [e3]
 have ex : Go.bits .xor .u8 (x.toNat : Int) ((2 ^ (a % 8) : Nat) : Int) = (((UInt8.ofNat (x.toNat ^^^ 2 ^ (a % 8))).toNat : Nat) : Int) := by
  rw [xor8 hxl2 p8, UInt8.toNat_ofNat', Nat.mod_eq_of_lt (Nat.xor_lt_two_pow (n := 8) hxl2 p8)]
 rw [ex]
 obtain ⟨y, ey⟩ : ∃ y, y = UInt8.ofNat (x.toNat ^^^ 2 ^ (a % 8)) := ⟨_, rfl⟩
 rw [← ey]
 have st : st1 ⟨H1.next, a / 8, none⟩ (.int .u8 (y.toNat : Int)) h28 = some (h28.set H1.next (.cells (((finB q).set (a / 8) y).map encB) 5 true 18446744073709551616)) := by
  unfold st1
  simp only [AHeap.wr1, g28']
  rw [if_pos ⟨by rw [List.length_map]; omega, by omega, rfl⟩, List.map_set]
  rfl
 refine .bnd (idxL_out (by omega)) (.bnd st ?_)
 obtain ⟨h34, e34⟩ : ∃ h34, h34 = h28.set H1.next (.cells (((finB q).set (a / 8) y).map encB) 5 true 18446744073709551616) := ⟨_, rfl⟩
 rw [← e34]
 obtain ⟨fb, efb⟩ : ∃ fb, fb = (finB q).set (a / 8) y := ⟨_, rfl⟩
 rw [← efb] at e34
 have g34 : h34.get H1.next = some (.cells (fb.map encB) 5 true 18446744073709551616) := by rw [e34]; simp
 have n34 : h34.next = h28.next := by rw [e34]; rfl
 have k34 : Keeps H1 h34 := by rw [e34]; exact Keeps.set k28 (Nat.le_refl _)
 have lfb : fb.length = n := by rw [efb, List.length_set, en]
 have bo : ∀ {H : AHeap}, Keeps h34 H → bytesOf H ⟨some ⟨H1.next, 0, some 2⟩, n, n⟩ = some (bA fb) := fun kk => by
  have := bytesOf_out (cap := n) (sp := some 2) (kk.got (by omega) g34)
  rw [lfb] at this
  exact this
 refine .bnd (bo (Chg.refl _ _)) (.call (parse_spec14 D (kg1.chg k34 fun f => f) (by omega) (bA fb)) fun r36 ⟨k36, q36⟩ => ?_)
 have ebl : bl (bA fb) = fb := rfl
 rw [ebl] at q36
 cases hp : parseK fb with
 | none =>
  rw [hp] at q36
  simp only [] at q36
  rw [q36]
  exact .ifp rfl (.ifp rfl (.of rfl))
 | some its =>
  rw [hp] at q36
  obtain ⟨sl, q36, A36⟩ := q36
  rw [q36]
  have R36 := A36.row itC_len
  have hpos : 0 < its.length := by
   rcases Nat.eq_zero_or_pos its.length with w | w
   ·have := List.length_eq_zero_iff.1 w
    rw [this] at hp
    have := parse_none hp
    omega
   ·exact w
  have sll : sl.len = its.length := R36.len
  refine .ifn (by simp) (.ifp (decide_eq_true (by dsimp only; rw [sll]; omega)) (.bnd (bo k36) (Wp.newE fun h38 e38 k38 n38 g38 => ?_)))
  have R38 : Row encS h38 ⟨some ⟨r36.2.next, 0, some 0⟩, 1, 1⟩ [bA fb] := Row.of_block (enc := encS) (xs := [bA fb]) g38 (by omega) fun i z hz => by
   match i with
   | 0 => simp at hz; subst hz; rfl
   | i + 1 => simp at hz
  have ec : Ge.B.catL [bA fb] = fb := by simp [Ge.B.catL]; rfl
  refine .call (Ge.B.sum_spec (by omega) D (((kg1.chg k34 fun f => f).chg k36 fun f => f).chg k38 fun f => f) R38 (by rw [ec]; omega) (by rw [ec]; omega) (by simp; omega) (by simp)) fun r39 ⟨q39, k39⟩ => ?_
  rw [ec] at q39
  obtain ⟨x0, hx0⟩ := isome (l := its) (i := 0) hpos
  obtain ⟨p, b1, _⟩ := R36.ld itC_len (by decide) hx0
  have ex0 := parse_pid hp x0 (mem_of hx0)
  have b1' : idxL 6 sl 0 = some p := b1
  have ldp : ∀ {H : AHeap}, Keeps r36.2 H → Gx.ldS ⟨p.block, p.off + 1 + 0, none⟩ H = some ⟨⟨digest fb⟩⟩ := fun kk => by
   obtain ⟨p', b1'', _, _, b4'⟩ := (R36.keeps kk).ld itC_len (by decide) hx0
   rw [b1] at b1''
   cases b1''
   exact b4' 1 _ (by rw [← ex0]; rfl)
  refine .bnd b1' (.bnd (ldp (k38.trans k39)) (.gp (fun HH hH => ?_) (.of ?_)))
  ·simp only [List.mem_cons, List.not_mem_nil, or_false] at hH
   rcases hH with z | z
   ·rw [z]; exact bnd (ldp k38) rfl
   ·rw [z]; exact bnd (ldp (Chg.refl _ _)) rfl
  ·rw [q39, ba_beq]; simp
theorem linesB_pos : ∀ {ts : List Tx}, ts ≠ [] → (∀ x ∈ ts, okT x) → 35 ≤ (linesB ts).length
 | [], h, _ => absurd rfl h
 | x :: r, _, hk => by
  have := (lineA_len x.1 x.2 (hk x (by simp)).2).2
  unfold linesB
  rw [List.flatMap_cons, List.length_append]; omega
theorem packback_true (D : CallF) (kg : KG 0 h) (hk : 3000000 ≤ k) {texts : Slc} {xs : List ByteArray} (R : Row encS h texts xs) (at' : Int) : Gx.Wp (law14_PackBack k D texts at' h) fun z => z.1 = true := by
 simp only [law14_PackBack]
 refine .call (new_spec14 (lim := 65536) D) fun r1 ⟨k1, q1⟩ => Wp.jn fun j7 h7 => ?_
 rw [if_pos (by decide)] at q1
 obtain ⟨q1, mb, s1, B⟩ := q1
 rw [q1]
 refine .ifn (by simp) (.ifn (by simp) (.call (works14 D (kg.chg k1 fun f => f) (by omega)) fun r121 ⟨q121, k121⟩ => ?_))
 have B1 := B.keeps k121
 rw [q121, h7]
 refine .ifn (by decide) (Wp.jn fun j13 h13 => ?_)
 unfold law14_PackBack_l1
 obtain ⟨bot, eb⟩ := iterK_of (fun _ _ _ _ _ _ _ => none) (law14_PackBack_l1b k D j13) (show min 20 xs.length + 1 ≤ k by omega)
 rw [eb, show (0 : Int) = ((0 : Nat) : Int) from rfl]
 refine add_loop D kg (by omega) R at' ?_ bot _ 0 r121.2 mb s1 ⟨none, 0, 0⟩ ⟨none, 0, 0⟩ ⟨none, 0, 0⟩ ⟨none, 0, 0⟩ st0P [] (by omega) (by simp) ⟨k1.trans k121, Nat.le_refl _, B1, GoodP.nil, fun x hx => (by cases hx), Acc.nil _ _ _ _, Acc.nil _ _ _ _, fun a b ha => by cases ha⟩
 intro H mb s1 s2 si w ids q ts P ht
 rw [h13]
 have kgH : KG 0 H := kg.chg P.kp fun f => f
 obtain ⟨z1, z2, z3⟩ := P.G.sizes (m := 300) (by omega) P.sm
 have wl : w.len = ts.length := by rw [P.W.row.1, List.length_map]
 refine .call (finish_spec P.B D kgH (by have := P.hp; have := kg.lt; omega) (by omega) (by omega) (by omega) (by omega)) fun r14 q14 => ?_
 by_cases c0 : q.2.2.1 = []
 ·rw [if_pos c0] at q14
  obtain ⟨q14, _⟩ := q14
  have t0 : ts.length = 0 := by rw [← z3, c0]; rfl
  rw [q14, wl, t0]
  exact .ifp rfl (.ifp (by rw [ba_beq]; simp) (.of rfl))
 rw [if_neg c0] at q14
 obtain ⟨q14, A14, _, c14⟩ := q14
 have tpos : 0 < ts.length := by rw [← z3]; exact List.length_pos_iff.2 c0
 have hne : ts ≠ [] := List.length_pos_iff.1 tpos
 have ll := leb_len 2 q.2.2.1.length (by omega)
 have lF : (finB q).length = q.1.length + ((leb q.2.2.1.length).length + q.2.1.length + 8) := by
  unfold finB dirB; simp only [List.length_append, Ge.B.fixL_length]; rfl
 have hf : (finB q).length ≤ 20000 := by omega
 have l35 := linesB_pos hne P.G.k
 rw [← P.G.d] at l35
 have kz14 : Keeps h r14.2 := P.kp.keepsS c14 fun y hy => Nat.le_trans P.hp (P.B.ge hy).1
 have W14 := P.W.chg c14 fun a ha => P.B.notS P.W _ ⟨a, ha, rfl⟩
 have I14 := P.I.chg c14 fun a ha => P.B.notS P.I _ ⟨a, ha, rfl⟩
 rw [q14, wl]
 refine .ifn (fun w => absurd (eq_of_beq w) (by omega)) (.call (parse_spec14 D (kg.chg kz14 fun f => f) (by omega) ⟨⟨finB q⟩⟩) fun r15 ⟨k15, q15⟩ => Wp.jn fun j23 h23 => ?_)
 rw [bl_mk, parse_fin P.G (by omega) (by omega) hne] at q15
 obtain ⟨l, q15, A15⟩ := q15
 rw [q15]
 have Rl := A15.row itC_len
 have Rs := (A14.row itC_len).keeps k15
 have li : (finI q).length = ts.length := by unfold finI; rw [List.length_map, z3]
 refine .ifn (by simp) (.bnd (same_true D Rl Rs (by omega) (by omega)) (.ifn (by simp) ?_))
 have ll2 : l.len = ts.length := by rw [Rl.len, li]
 rw [h23]
 dsimp only
 rw [ll2]
 refine .ifn (by simp) (Wp.jn fun j27 h27 => ?_)
 unfold law14_PackBack_l0
 obtain ⟨bot2, eb2⟩ := iterK_of (fun _ _ _ _ _ _ _ _ => none) (law14_PackBack_l0b k D j27) (show ts.length + 1 ≤ k by omega)
 rw [eb2, show (0 : Int) = ((0 : Nat) : Int) from rfl]
 have kz15 := kz14.trans k15
 have := read_loop (k := k) D (kg.chg kz15 fun f => f) (by omega) P.G P.sm ht (by omega) Rl (W14.row.keeps k15) (I14.row.keeps k15) at' (j27 := j27) (Q := fun z => z.1 = true) ?_ bot2 ts.length 0 r15.2 (by omega) (Chg.refl _ _)
 ·rw [ll2] at this
  exact this
 intro H1 kH1
 rw [h27]
 exact bit_true D (kg.chg (kz15.trans kH1) fun f => f) hk hf (by omega) at'
theorem packback_T (hk : 3000000 ≤ k) (D : CallF) (kg : KG 0 h) {texts : Slc} {xs : List ByteArray} (R : Row encS h texts xs) (_B : ∀ z, texts.a = some z → z.block < h.next) (at' : Int) : ∃ h', law14_PackBack k D texts at' h = some (true, h') := tru (packback_true D kg hk R at')
end
end Ge
